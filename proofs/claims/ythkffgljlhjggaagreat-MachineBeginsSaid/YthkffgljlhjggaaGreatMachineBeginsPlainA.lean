/- What is proved: what the plain functions over data say, whose trees the text before writes out: the law MachineBegins answers true. Conditions: those that each theorem states. -/
import Derived.Test.YthkffgljlhjggaaGreatMachineBeginsTree
set_option linter.unusedVariables false
set_option linter.unusedSectionVars false
set_option linter.unusedSimpArgs false
namespace Go.AE
section
variable [An]
def atV (Ts : List (List (Tr Plf))) (xs : List D) : Val := Iw (Al Ts) xs
def fin (Ts : List (List (Tr Plf))) (k : Nat) (V : Val) : Plf → D
 | .stuck => .row []
 | .done s cs => .row (.int (s + 1 : Nat) :: cs.map (Ab V))
 | .next j θ => Al Ts k (.row (.int j :: θ.map (Ab V)))
def QY (Ts : List (List (Tr Plf))) (k : Nat) (V : Val) (t : Tr Plf) : D := fin Ts k V (t.get V)
theorem mV {Ts : List (List (Tr Plf))} (h : DY 0 Ts = true) {k p : Nat} {T : List (Tr Plf)} {t : Tr Plf} {xs : List D} (hk : Ts[k]? = some T) (hp : T[p]? = some t) :
  Al Ts k (.row (.int (p : Nat) :: xs)) = QY Ts k (atV Ts xs) t := by
 have hd : BB T (Al Ts) (.row (.int (p : Nat) :: xs)) = Ck (atV Ts xs) (t.get (atV Ts xs)) := by
  show (match T[p]? with | some t => Ck _ (t.get _) | none => none) = _
  rw [hp];rfl
 unfold QY fin;split
 ·rename_i e;rw [e] at hd;rw [Am h hk];rcases Ei (BB T (Al Ts)) (.row (.int (p : Nat) :: xs)) with q | ⟨n, q⟩
  ·exact q
  ·cases n with
   | zero => cases q
   | succ n =>
    simp only [Fu, hd] at q;cases q
 ·rename_i e;rw [e] at hd;rw [Am h hk];exact P1 hd
 ·rename_i e;rw [e] at hd;rw [Am h hk, Pz hd, ← Am h hk]
theorem QJ {Ts : List (List (Tr Plf))} {k : Nat} {V : Val} {e : SB} {a b : Tr Plf} : QY Ts k V (.split e a b) = if Ah V e = true then QY Ts k V a else QY Ts k V b := by
 unfold QY;rw [show (Tr.split e a b).get V = match Ah V e with | true => a.get V | false => b.get V from rfl]
 cases Ah V e <;> rfl
end
theorem AJ {a : Int} (h : -9223372036854775808 ≤ a) (h' : a < 9223372036854775808) : IntKind.wrap .i64 a = a := by
 show (if (true && decide (a % (2 ^ 64 : Int) ≥ 2 ^ 63)) = true then a % (2 ^ 64 : Int) - 2 ^ 64 else a % (2 ^ 64 : Int)) = a
 split
 ·rename_i q;simp only [Bool.true_and, decide_eq_true_eq] at q;omega
 ·rename_i q;simp only [Bool.true_and, decide_eq_true_eq] at q;omega
def len (d : D) : Nat := d.rows.length
def A5 (d : D) : Nat := d.toStr.data.toList.length
def cl (a : D) (i : Int) (j : Nat) : D := (a.rows.getD i.toNat default).cells.getD j default
def sl (a : D) (j : Nat) : D := a.cells.getD j default
def Ar : D := .slc true []
def Ac : D := .slc false []
def ad (a r : D) : D := .slc false (a.rows ++ [r])
def upd (a : D) (i : Int) (j : Nat) (x : D) : D := .slc a.isNil (a.rows.modify i.toNat fun r => .row (r.cells.set j x))
def ct (a b : D) : D := .slc (a.isNil && b.rows.isEmpty) (a.rows ++ b.rows)
def sb (a : D) (lo hi : Int) : D := .slc a.isNil ((a.rows.drop lo.toNat).take (hi.toNat - lo.toNat))
def ni (a : D) (b : Bool) : D := .slc b a.rows
def CG (l b : Nat) : D := .str ⟨(Da l b).toArray⟩
def Xh (a b : D) : D := .str (a.toStr ++ b.toStr)
def PB (a : D) : D := .slc false (a.toStr.data.toList.map fun b => .row [.int b.toNat])
def mIx (ks : List Kd) (a k : D) : Int := Hh ks k.cells a.rows 0
def J9 (a : D) (i : Int) : D := .slc a.isNil (a.rows.eraseIdx i.toNat)
def sAt (a : D) (i : Int) : Int := ((a.toStr.data.toList[i.toNat]?).getD 0).toNat
def eqC (a : D) (l b : Nat) : Bool := strEq a.toStr.data.toList.length (AH a.toStr.data.toList) l b
def ari (op : BinOp) (k : IntKind) (x y : Int) : Int := match Dw op k x y with
 | some (.int _ n) => n
 | _ => 0
theorem ifT {α : Type} {p : Prop} [Decidable p] {a b : α} (h : p) : cond (decide p) a b = a := by rw [decide_eq_true h]; rfl
theorem ifF {α : Type} {p : Prop} [Decidable p] {a b : α} (h : ¬ p) : cond (decide p) a b = b := by rw [decide_eq_false h]; rfl
theorem cT {α : Type} {c : Bool} {a b : α} (h : c = true) : cond c a b = a := by rw [h]; rfl
theorem cF {α : Type} {c : Bool} {a b : α} (h : c = false) : cond c a b = b := by rw [h]; rfl
section
variable [An]
def D4 (Ts : List (List (Tr Plf))) (k : Nat) (V : Val) : Tr Plf → D
 | .leaf l => fin Ts k V l
 | .split e a b => cond (Ah V e) (D4 Ts k V a) (D4 Ts k V b)
theorem Ju {Ts : List (List (Tr Plf))} {k : Nat} {V : Val} : ∀ t : Tr Plf, QY Ts k V t = D4 Ts k V t
 | .leaf l => rfl
 | .split e a b => by
  rw [QJ, Ju a, Ju b, D4];cases Ah V e <;> rfl
theorem bG {Ts : List (List (Tr Plf))} (h : DY 0 Ts = true) {k p : Nat} {T : List (Tr Plf)} {t : Tr Plf} {xs : List D} (hk : Ts[k]? = some T) (hp : T[p]? = some t) :
  Al Ts k (.row (.int (p : Nat) :: xs)) = D4 Ts k (atV Ts xs) t := (mV h hk hp).trans (Ju t)
theorem cg {Ts : List (List (Tr Plf))} {k : Nat} {V : Val} {e : SB} {a b : Tr Plf} {c : Bool} {x y : D} (h : Ah V e = c) (ha : D4 Ts k V a = x) (hb : D4 Ts k V b = y) : D4 Ts k V (.split e a b) = cond c x y := by
 rw [D4, h, ha, hb]
end
theorem lE {V : Val} {a b : SE} {x y : Int} (h : (Ab V a).toInt = x) (h' : (Ab V b).toInt = y) : Ah V (.lss a b) = decide (x < y) := by rw [← h, ← h']; rfl
theorem qE {V : Val} {a b : SE} {x y : Int} (h : (Ab V a).toInt = x) (h' : (Ab V b).toInt = y) : Ah V (.eql a b) = decide (x = y) := by rw [← h, ← h']; rfl
section
variable [An]
theorem cL {Ts : List (List (Tr Plf))} {k : Nat} {V : Val} {e f : SE} {a b : Tr Plf} {m n : Int} {x y : D} (ha : D4 Ts k V a = x) (hb : D4 Ts k V b = y) (h : (Ab V e).toInt = m := by rfl) (h' : (Ab V f).toInt = n := by rfl) : D4 Ts k V (.split (.lss e f) a b) = cond (decide (m < n)) x y := cg (lE h h') ha hb
theorem cQ {Ts : List (List (Tr Plf))} {k : Nat} {V : Val} {e f : SE} {a b : Tr Plf} {m n : Int} {x y : D} (ha : D4 Ts k V a = x) (hb : D4 Ts k V b = y) (h : (Ab V e).toInt = m := by rfl) (h' : (Ab V f).toInt = n := by rfl) : D4 Ts k V (.split (.eql e f) a b) = cond (decide (m = n)) x y := cg (qE h h') ha hb
end
theorem aE {V : Val} {a b : SE} {x y : Bool} (h : Ah V a = x) (h' : Ah V b = y) : Ah V (.and a b) = (x && y) := by rw [← h, ← h']; rfl
def Wd (a : D) (n : Nat) : Prop := ∀ r ∈ a.rows, ∃ cs, r = .row cs ∧ cs.length = n
theorem CS {a x : D} {i : Int} {j : Nat} : len (upd a i j x) = len a := by
 show (a.rows.modify _ _).length = _;simp [len]
theorem B7 {a r : D} : len (ad a r) = len a + 1 := by
 show (a.rows ++ [r]).length = _;simp [len]
theorem BI : len Ar = 0 := rfl
theorem Ox {a : D} {b : Bool} : len (ni a b) = len a := rfl
theorem Wp {a : D} {lo hi : Int} (h : lo.toNat ≤ hi.toNat) (h' : hi.toNat ≤ len a) : len (sb a lo hi) = hi.toNat - lo.toNat := by
 show ((a.rows.drop _).take _).length = _;have : hi.toNat ≤ a.rows.length := h';simp;omega
theorem AZ {x : D} {l : List D} : sl (.row (x :: l)) 0 = x := rfl
theorem AY {x : D} {l : List D} {n : Nat} : sl (.row (x :: l)) (n + 1) = sl (.row l) n := rfl
theorem Ax {n : Int} : (D.int n).toInt = n := rfl
theorem AK {b : Bool} : (D.bool b).toBool = b := rfl
theorem H5 {n : Nat} : Wd Ar n := fun r hr => (by cases hr)
theorem VX {a : D} {cs : List D} {n : Nat} (h : Wd a n) (hc : cs.length = n) : Wd (ad a (.row cs)) n := by
 intro r hr;have hr : r ∈ a.rows ++ [.row cs] := hr;rcases List.mem_append.1 hr with q | q
 ·exact h r q
 ·exact ⟨cs, List.mem_singleton.1 q, hc⟩
theorem D3 {a x : D} {i : Int} {j n : Nat} (h : Wd a n) : Wd (upd a i j x) n := by
 intro r hr;have hr' : r ∈ a.rows.modify i.toNat fun r => .row (r.cells.set j x) := hr
 obtain ⟨k, hk, e⟩ := List.getElem_of_mem hr';rw [List.getElem_modify] at e;have hk' : k < a.rows.length := by simpa using hk
 obtain ⟨cs, hc, hn⟩ := h _ (List.getElem_mem hk');split at e
 ·rw [hc] at e;exact ⟨_, e.symm, by simp [D.cells, hn]⟩
 ·exact ⟨cs, by rw [← e]; exact hc, hn⟩
theorem Eu {a x : D} {i k : Int} {j j' n : Nat} (h : Wd a n) (hj : j < n) (hi : 0 ≤ i) (hi' : i < len a) (hk : 0 ≤ k) : cl (upd a i j x) k j' = if k = i ∧ j' = j then x else cl a k j' := by
 have hi2 : i.toNat < a.rows.length := by have : len a = a.rows.length := rfl; omega
 show ((a.rows.modify i.toNat fun r => D.row (r.cells.set j x))[k.toNat]?.getD default).cells.getD j' default = _
 rw [List.getElem?_modify];by_cases q : k = i
 ·subst q;obtain ⟨cs, hc, hn⟩ := h _ (List.getElem_mem hi2);rw [List.getElem?_eq_getElem hi2];show ((if k.toNat = k.toNat then D.row ((a.rows[k.toNat]).cells.set j x) else a.rows[k.toNat]).cells[j']?).getD default = _
  rw [if_pos rfl, hc];show ((cs.set j x)[j']?).getD default = _;rw [List.getElem?_set];by_cases q' : j = j'
  ·subst q';rw [if_pos rfl, if_pos (by omega), if_pos ⟨rfl, rfl⟩]
   rfl
  ·rw [if_neg q', if_neg (fun c => q' c.2.symm)]
   show _ = (a.rows[k.toNat]?.getD default).cells.getD j' default;rw [List.getElem?_eq_getElem hi2, Option.getD_some, hc];rfl
 ·have q2 : ¬ i.toNat = k.toNat := by omega
  rw [if_neg (fun c => q c.1)]
  simp [q2, cl]
theorem Dg {a r : D} {k : Int} {j : Nat} (hk : 0 ≤ k) : cl (ad a r) k j = if k = len a then sl r j else cl a k j := by
 have hl : len a = a.rows.length := rfl;show ((a.rows ++ [r])[k.toNat]?.getD default).cells.getD j default = _;by_cases q : k.toNat < a.rows.length
 ·rw [List.getElem?_append_left q, if_neg (by omega)]
  rfl
 ·by_cases q' : k = len a
  ·subst q';rw [if_pos rfl];have : ((len a : Int)).toNat = a.rows.length := by omega
   rw [this];simp [sl]
  ·rw [if_neg q', List.getElem?_eq_none (by simp; omega)]
   show _ = (a.rows[k.toNat]?.getD default).cells.getD j default;rw [List.getElem?_eq_none (by omega)]
theorem SL {a : D} {b : Bool} {k : Int} {j : Nat} : cl (ni a b) k j = cl a k j := rfl
theorem U9 {P : Program} {ts : List TypeId} {xs : List D} {ks : List Kd} (h : IM P ts xs) (hk : AN (Env.of P) ts = some ks) : ks.length = xs.length ∧ LU (Env.of P).kinds 9 ks xs := by
 obtain ⟨ks', cs, M, e, hd, _, hc⟩ := h;rw [hk] at e;cases e;exact ⟨hd.len.2, hc⟩
theorem bH {x c : Int} {l : List D} (h : x ≠ c) : ¬ (sl (.row (.int x :: l)) 0).toInt = c := h
theorem EG.cell {K : TypeId → Option (List Kd)} {m j : Nat} {e : TypeId} {ks : List Kd} {kd : Kd} {d : D} {i : Int} (h : EG K (m + 1) (.slice e) d) (hk : K e = some ks) (h0 : 0 ≤ i) (hi : i < len d) (hj : ks[j]? = some kd) : EG K m kd (cl d i j) := by
 obtain ⟨nl, rows, rfl, _, q⟩ := h;have hi' : i.toNat < rows.length := by have : len (.slc nl rows) = rows.length := rfl; omega
 obtain ⟨cs, e1, _, e3⟩ := q ks hk _ (List.getElem_mem hi');show EG K m kd ((rows[i.toNat]?.getD default).cells.getD j default);rw [List.getElem?_eq_getElem hi', Option.getD_some, e1];exact e3 j kd hj
theorem EG.toI {K : TypeId → Option (List Kd)} {m : Nat} {k : IntKind} {d : D} (h : EG K m (.int k) d) : ∃ n, d = .int n := by cases m <;> exact h
theorem EG.toB {K : TypeId → Option (List Kd)} {m : Nat} {d : D} (h : EG K m .bool d) : ∃ b, d = .bool b := by cases m <;> exact h
theorem EG.wd {K : TypeId → Option (List Kd)} {m : Nat} {e : TypeId} {ks : List Kd} {d : D} (h : EG K (m + 1) (.slice e) d) (hk : K e = some ks) : Wd d ks.length := by
 obtain ⟨nl, rows, rfl, _, q⟩ := h;intro r hr;obtain ⟨cs, e1, e2, _⟩ := q ks hk r hr;exact ⟨cs, e1, e2⟩
def fdG (p : Nat → Bool) : Nat → Nat → Int
 | 0, _ => -1
 | k + 1, i => cond (p i) (i : Int) (fdG p k (i + 1))
theorem KR {p : Nat → Bool} : ∀ {k i : Nat}, fdG p k i < i + k
 | 0, i => by show (-1 : Int) < _; omega
 | k + 1, i => by
  rw [fdG];have := KR (p := p) (k := k) (i := i + 1);cases p i
  ·show fdG p k (i + 1) < _; omega
  ·show (i : Int) < _; omega
theorem NI {p : Nat → Bool} : ∀ {k i : Nat}, fdG p k i = -1 ∨ (i : Int) ≤ fdG p k i
 | 0, i => .inl rfl
 | k + 1, i => by
  rw [fdG];cases p i
  ·show fdG p k (i + 1) = _ ∨ _ ≤ fdG p k (i + 1);rcases NI (p := p) (k := k) (i := i + 1) with h | h
   ·exact .inl h
   ·exact .inr (by omega)
  ·exact .inr (Int.le_refl _)
theorem Ok {p : Nat → Bool} : ∀ {k i : Nat}, 0 ≤ fdG p k i → p (fdG p k i).toNat = true
 | 0, i => fun h => by simp [fdG] at h
 | k + 1, i => by
  rw [fdG];cases q : p i
  ·exact Ok (k := k)
  ·intro _;show p i = true;exact q
theorem Ro {p : Nat → Bool} : ∀ {k i j : Nat}, i ≤ j → j < i + k → p j = true → 0 ≤ fdG p k i ∧ fdG p k i ≤ j
 | 0, i, j => fun h h' => by omega
 | k + 1, i, j => by
  intro h h' hp;rw [fdG];cases q : p i
  ·have : i ≠ j := fun c => by rw [c, hp] at q; cases q
   exact Ro (k := k) (by omega) (by omega) hp
  ·show 0 ≤ (i : Int) ∧ (i : Int) ≤ j; omega
theorem OJ {p : Nat → Bool} {k i j : Nat} (h : i ≤ j) (h' : (j : Int) < fdG p k i ∨ (fdG p k i < 0 ∧ j < i + k)) : p j = false := by
 cases q : p j
 ·rfl
 ·have := KR (p := p) (k := k) (i := i);have := Ro (p := p) (k := k) h (by omega) q
  omega
theorem X9 {p : Nat → Bool} {k i : Nat} (h : ∀ j, i ≤ j → j < i + k → p j = false) : fdG p k i = -1 := by
 rcases NI (p := p) (k := k) (i := i) with q | q
 ·exact q
 ·have a := Ok (p := p) (k := k) (i := i) (by omega)
  rw [h _ (by omega) (by have := KR (p := p) (k := k) (i := i); omega)] at a
  cases a
theorem IV {p q : Nat → Bool} : ∀ {k i : Nat}, (∀ j, i ≤ j → j < i + k → p j = q j) → fdG p k i = fdG q k i
 | 0, i, h => rfl
 | k + 1, i, h => by
  rw [fdG, fdG, h i (Nat.le_refl _) (by omega), IV fun j a b => h j (by omega) (by omega)]
theorem Yx {F : Nat → D} {bad : Nat → Bool} {B : Nat → D} {n : Nat} : ∀ {k i : Nat}, i + k = n → (∀ j, i ≤ j → j < n → F j = cond (bad j) (B j) (F (j + 1))) → F i = cond (decide (fdG bad k i < 0)) (F n) (B (fdG bad k i).toNat)
 | 0, i => fun h _ => by
  have : i = n := by omega
  subst this;rfl
 | k + 1, i => fun h hs => by
  rw [hs i (Nat.le_refl _) (by omega), fdG]
  cases bad i
  ·exact Yx (by omega) fun j a b => hs j (by omega) b
  ·show B i = cond (decide ((i : Int) < 0)) _ (B (i : Int).toNat);rw [ifF (by omega)]
   rfl
theorem Ki {F : Nat → D} {bad : Nat → Bool} {B : Nat → D} {n : Nat} (hs : ∀ j, j < n → F j = cond (bad j) (B j) (F (j + 1))) : F 0 = cond (decide (fdG bad n 0 < 0)) (F n) (B (fdG bad n 0).toNat) := Yx (by omega) fun j _ b => hs j b
theorem find {F : Nat → D} {bad : Nat → Bool} {n : Nat} (hs : ∀ j, j < n → F j = cond (bad j) (.row [.int 1, .int (j : Nat)]) (F (j + 1))) (hr : F n = .row [.int 1, .int (-1)]) : F 0 = .row [.int 1, .int (fdG bad n 0)] := by
 rw [Ki hs, hr];have h := NI (p := bad) (k := n) (i := 0);by_cases q : fdG bad n 0 < 0
 ·rw [ifT q];rcases h with h | h
  ·rw [h]
  ·omega
 ·rw [ifF q];have : ((fdG bad n 0).toNat : Int) = fdG bad n 0 := by omega
  rw [this]
theorem Bp {i : Nat} (h : i < 4611686018427387904) : IntKind.wrap .i64 ((i : Int) + 1) = ((i + 1 : Nat) : Int) := by rw [AJ (by omega) (by omega)]; omega
theorem KI {α : Type} {c : Bool} {a b x : α} (h1 : c = true → a = x) (h2 : c = false → b = x) : cond c a b = x := by
 cases c
 ·exact h2 rfl
 ·exact h1 rfl
theorem dT {p : Prop} [Decidable p] (h : decide p = true) : p := of_decide_eq_true h
theorem dF {p : Prop} [Decidable p] (h : decide p = false) : ¬ p := of_decide_eq_false h
theorem Si {x y : Int} : decide (x = y) = decide (y = x) := decide_eq_decide.2 eq_comm
theorem JN {a : D} : D.strEq a a = true := by
 show (Nat.beq _ _ && Nat.beq _ _) = true;simp
theorem BE {a b : D} : D.strEq a b = D.strEq b a := Nl (U := GM) _ _ _ _
theorem Dk {a : D} : eqC a 0 0 = decide (A5 a = 0) := by
 show (Nat.beq _ 0 && Nat.beq _ 0) = _;show _ = decide (a.toStr.data.toList.length = 0);cases a.toStr.data.toList <;> simp [AH]
theorem UU {a b : D} : A5 (Xh a b) = A5 a + A5 b := by
 show (a.toStr ++ b.toStr).data.toList.length = _;simp [A5]
theorem Rt {a b : D} : eqC (Xh a b) 0 0 = (eqC a 0 0 && eqC b 0 0) := by
 rw [Dk, Dk, Dk, UU, Bool.eq_iff_iff];simp
theorem CT {a b : D} : D.strEq a b = true ↔ a.toStr = b.toStr := by
 show AE.strEq _ _ _ _ = true ↔ _;rw [Cc (U := GM)];constructor
 ·intro h;rw [ByteArray.toList_eq, ByteArray.toList_eq] at h;have : a.toStr.data.toList = b.toStr.data.toList := by simpa only [beq_iff_eq] using h
  exact ByteArray.ext (Array.toList_inj.1 this)
 ·intro h;rw [h];simp
theorem Oc {a b c : D} (h : D.strEq a b = true) (h' : D.strEq b c = true) : D.strEq a c = true := CT.2 ((CT.1 h).trans (CT.1 h'))
theorem IB {a b c : D} (h : D.strEq a b = true) : D.strEq a c = D.strEq b c := by
 show AE.strEq _ _ _ _ = AE.strEq _ _ _ _;rw [CT.1 h]
theorem KS {a : D} {i : Nat} {j c : Nat} (hi : i ≤ len a) (hj : j < i) : cl (sb a 0 i) j c = cl a j c := by
 have hi' : i ≤ a.rows.length := hi;show (((a.rows.drop 0).take (i - 0)).getD j default).cells.getD c default = (a.rows.getD j default).cells.getD c default;rw [List.getD_eq_getElem?_getD, List.getD_eq_getElem?_getD, List.getElem?_take];simp [hj]
theorem ShK.cell {K : TypeId → Option (List Kd)} {o : Option Nat} {m j : Nat} {e : TypeId} {ks : List Kd} {kd : Kd} {d : D} {i : Nat} (h : ShK K o (m + 1) (.slice e) d) (hk : K e = some ks) (hi : i < len d) (hj : ks[j]? = some kd) : ShK K o m kd (cl d i j) := h.2 ks hk i hi j kd hj
theorem ShK.rows {K : TypeId → Option (List Kd)} {b m : Nat} {e : TypeId} {d : D} (h : ShK K (some b) (m + 1) (.slice e) d) : len d ≤ b := h.1 b rfl
theorem ShK.text {K : TypeId → Option (List Kd)} {b m : Nat} {d : D} (h : ShK K (some b) m .str d) : A5 d ≤ b := by
 have : leB (some b) (A5 d) := by cases m <;> exact h
 exact this b rfl
end Go.AE
set_option maxRecDepth 100000
namespace Mb
open Go Go.AE
theorem lt : DY 0 ts = true := by decide
theorem gw [An] {k p : Nat} {T : List (Tr Plf)} {t : Tr Plf} {xs : List D} {x : D} (hk : ts[k]? = some T) (hp : T[p]? = some t) (h : D4 ts k (atV ts xs) t = x) : Al ts k (.row (.int (p : Nat) :: xs)) = x := (bG lt hk hp).trans h
section
variable [An]
def UE (v0 v1 v2 v3 : D) : D := Al ts 0 (.row [.int (0 : Nat), v0, v1, v2, v3])
def WE (v0 v1 v2 v3 v4 : D) : D := Al ts 0 (.row [.int (1 : Nat), v0, v1, v2, v3, v4])
def TV (v0 v1 v2 v3 v4 : D) : D := Al ts 0 (.row [.int (2 : Nat), v0, v1, v2, v3, v4])
def TB (v0 v1 v2 v3 v4 : D) : D := Al ts 0 (.row [.int (3 : Nat), v0, v1, v2, v3, v4])
def I2 : D := Al ts 1 (.row [.int (0 : Nat)])
def GN (v0 : D) : D := Al ts 2 (.row [.int (0 : Nat), v0])
def Rm (v0 v1 v2 : D) : D := Al ts 2 (.row [.int (1 : Nat), v0, v1, v2])
def UF (v0 v1 : D) : D := Al ts 3 (.row [.int (0 : Nat), v0, v1])
def Xc (v0 v1 v2 : D) : D := Al ts 3 (.row [.int (1 : Nat), v0, v1, v2])
def UA (v0 v1 v2 v3 v4 v5 v6 : D) : D := Al ts 4 (.row [.int (0 : Nat), v0, v1, v2, v3, v4, v5, v6])
def TC (v0 v1 v2 v3 v4 v5 : D) : D := Al ts 4 (.row [.int (1 : Nat), v0, v1, v2, v3, v4, v5])
def Je (v0 v1 : D) : D := Al ts 5 (.row [.int (0 : Nat), v0, v1])
def XZ (v0 v1 v2 : D) : D := Al ts 5 (.row [.int (1 : Nat), v0, v1, v2])
def Vp (v0 v1 v2 v3 v4 v5 v6 : D) : D := Al ts 6 (.row [.int (0 : Nat), v0, v1, v2, v3, v4, v5, v6])
def TG (v0 v1 v2 v3 v4 v5 : D) : D := Al ts 6 (.row [.int (1 : Nat), v0, v1, v2, v3, v4, v5])
def ap (v0 v1 v2 v3 v4 v5 v6 v7 v8 v9 : D) : D := Al ts 7 (.row [.int (0 : Nat), v0, v1, v2, v3, v4, v5, v6, v7, v8, v9])
def Ta (v0 v1 v2 v3 v4 v5 v6 v7 v8 v9 v10 : D) : D := Al ts 7 (.row [.int (1 : Nat), v0, v1, v2, v3, v4, v5, v6, v7, v8, v9, v10])
def V2 (v0 v1 v2 v3 v4 v5 v6 : D) : D := Al ts 8 (.row [.int (0 : Nat), v0, v1, v2, v3, v4, v5, v6])
def HI (v0 v1 v2 v3 v4 v5 : D) : D := Al ts 8 (.row [.int (1 : Nat), v0, v1, v2, v3, v4, v5])
def Wi (v0 v1 v2 v3 : D) : D := Al ts 9 (.row [.int (0 : Nat), v0, v1, v2, v3])
def DS (v0 v1 v2 : D) : D := Al ts 10 (.row [.int (0 : Nat), v0, v1, v2])
def SN (v0 v1 v2 v3 : D) : D := Al ts 10 (.row [.int (1 : Nat), v0, v1, v2, v3])
def CB (v0 : D) : D := Al ts 11 (.row [.int (0 : Nat), v0])
def Sf (v0 v1 v2 v3 : D) : D := Al ts 11 (.row [.int (1 : Nat), v0, v1, v2, v3])
def CM (v0 : D) : D := Al ts 12 (.row [.int (0 : Nat), v0])
def CH (v0 : D) : D := Al ts 13 (.row [.int (0 : Nat), v0])
def CE (v0 : D) : D := Al ts 14 (.row [.int (0 : Nat), v0])
def D6 (v0 v1 v2 : D) : D := Al ts 15 (.row [.int (0 : Nat), v0, v1, v2])
def PG (v0 v1 v2 v3 v4 v5 : D) : D := Al ts 15 (.row [.int (1 : Nat), v0, v1, v2, v3, v4, v5])
def Hg (v0 v1 v2 v3 v4 v5 : D) : D := Al ts 16 (.row [.int (0 : Nat), v0, v1, v2, v3, v4, v5])
def Iz (v0 v1 v2 v3 v4 v5 : D) : D := Al ts 17 (.row [.int (0 : Nat), v0, v1, v2, v3, v4, v5])
def ET (v0 v1 v2 v3 v4 v5 v6 : D) : D := Al ts 19 (.row [.int (0 : Nat), v0, v1, v2, v3, v4, v5, v6])
def J0 (v0 v1 v2 v3 v4 v5 : D) : D := Al ts 19 (.row [.int (1 : Nat), v0, v1, v2, v3, v4, v5])
def Mi (v0 v1 v2 v3 v4 v5 v6 : D) : D := Al ts 20 (.row [.int (0 : Nat), v0, v1, v2, v3, v4, v5, v6])
def De (v0 v1 v2 v3 v4 v5 v6 v7 v8 v9 v10 v11 v12 v13 v14 v15 v16 v17 v18 v19 v20 : D) : D := Al ts 21 (.row [.int (0 : Nat), v0, v1, v2, v3, v4, v5, v6, v7, v8, v9, v10, v11, v12, v13, v14, v15, v16, v17, v18, v19, v20])
def SP (v0 v1 v2 v3 : D) : D := Al ts 22 (.row [.int (0 : Nat), v0, v1, v2, v3])
def RW (v0 v1 v2 v3 : D) : D := Al ts 23 (.row [.int (0 : Nat), v0, v1, v2, v3])
def SC (v0 v1 v2 v3 v4 : D) : D := Al ts 23 (.row [.int (1 : Nat), v0, v1, v2, v3, v4])
def Ny (v0 v1 v2 v3 : D) : D := Al ts 24 (.row [.int (0 : Nat), v0, v1, v2, v3])
def St (v0 v1 v2 v3 : D) : D := Al ts 25 (.row [.int (0 : Nat), v0, v1, v2, v3])
def PU (v0 v1 v2 v3 v4 : D) : D := Al ts 25 (.row [.int (1 : Nat), v0, v1, v2, v3, v4])
def Ps (v0 v1 v2 v3 v4 v5 : D) : D := Al ts 25 (.row [.int (2 : Nat), v0, v1, v2, v3, v4, v5])
def GI (v0 v1 v2 v3 v4 : D) : D := Al ts 26 (.row [.int (0 : Nat), v0, v1, v2, v3, v4])
def SH (v0 v1 v2 v3 v4 v5 v6 : D) : D := Al ts 26 (.row [.int (1 : Nat), v0, v1, v2, v3, v4, v5, v6])
def BG (v0 v1 v2 v3 v4 v5 v6 v7 v8 v9 v10 : D) : D := Al ts 26 (.row [.int (2 : Nat), v0, v1, v2, v3, v4, v5, v6, v7, v8, v9, v10])
def By (v0 v1 v2 v3 v4 : D) : D := Al ts 27 (.row [.int (0 : Nat), v0, v1, v2, v3, v4])
def J4 (v0 v1 v2 v3 v4 : D) : D := Al ts 27 (.row [.int (1 : Nat), v0, v1, v2, v3, v4])
def JY (v0 v1 v2 v3 v4 v5 : D) : D := Al ts 28 (.row [.int (0 : Nat), v0, v1, v2, v3, v4, v5])
def LV (v0 v1 v2 v3 v4 v5 v6 v7 v8 v9 : D) : D := Al ts 28 (.row [.int (1 : Nat), v0, v1, v2, v3, v4, v5, v6, v7, v8, v9])
def Ap (v0 v1 v2 v3 v4 v5 v6 v7 : D) : D := Al ts 29 (.row [.int (0 : Nat), v0, v1, v2, v3, v4, v5, v6, v7])
def Do (v0 : D) : D := Al ts 30 (.row [.int (0 : Nat), v0])
def JF (v0 v1 : D) : D := Al ts 30 (.row [.int (1 : Nat), v0, v1])
def Ip (v0 v1 v2 v3 v4 : D) : D := Al ts 31 (.row [.int (0 : Nat), v0, v1, v2, v3, v4])
def R1 (v0 v1 v2 v3 v4 v5 : D) : D := Al ts 31 (.row [.int (1 : Nat), v0, v1, v2, v3, v4, v5])
def Hm (v0 v1 v2 v3 v4 : D) : D := Al ts 32 (.row [.int (0 : Nat), v0, v1, v2, v3, v4])
def RU (v0 v1 v2 v3 v4 v5 : D) : D := Al ts 32 (.row [.int (1 : Nat), v0, v1, v2, v3, v4, v5])
def SG (v0 v1 v2 v3 v4 : D) : D := Al ts 33 (.row [.int (0 : Nat), v0, v1, v2, v3, v4])
def Ge (v0 v1 v2 v3 v4 v5 v6 v7 v8 v9 v10 v11 v12 v13 v14 v15 : D) : D := Al ts 33 (.row [.int (1 : Nat), v0, v1, v2, v3, v4, v5, v6, v7, v8, v9, v10, v11, v12, v13, v14, v15])
def PS (v0 v1 v2 v3 : D) : D := Al ts 34 (.row [.int (0 : Nat), v0, v1, v2, v3])
def JO (v0 v1 v2 v3 v4 : D) : D := Al ts 34 (.row [.int (1 : Nat), v0, v1, v2, v3, v4])
def J7 (v0 v1 v2 v3 v4 : D) : D := Al ts 34 (.row [.int (2 : Nat), v0, v1, v2, v3, v4])
def JH (v0 v1 v2 v3 v4 : D) : D := Al ts 34 (.row [.int (3 : Nat), v0, v1, v2, v3, v4])
def Pf (v0 : D) : D := Al ts 35 (.row [.int (0 : Nat), v0])
def P6 (v0 v1 v2 v3 v4 v5 : D) : D := Al ts 35 (.row [.int (1 : Nat), v0, v1, v2, v3, v4, v5])
def Sd (v0 v1 v2 v3 v4 v5 v6 : D) : D := Al ts 35 (.row [.int (2 : Nat), v0, v1, v2, v3, v4, v5, v6])
def DP (v0 v1 v2 v3 : D) : D := Al ts 36 (.row [.int (0 : Nat), v0, v1, v2, v3])
def Fv (v0 v1 v2 v3 v4 : D) : D := Al ts 37 (.row [.int (0 : Nat), v0, v1, v2, v3, v4])
def Hk (v0 v1 v2 v3 v4 v5 : D) : D := Al ts 37 (.row [.int (1 : Nat), v0, v1, v2, v3, v4, v5])
def Lo (v0 v1 v2 : D) : D := Al ts 38 (.row [.int (0 : Nat), v0, v1, v2])
def Pw (v0 v1 v2 v3 : D) : D := Al ts 38 (.row [.int (1 : Nat), v0, v1, v2, v3])
def Az (v0 v1 v2 v3 v4 v5 v6 : D) : D := Al ts 39 (.row [.int (0 : Nat), v0, v1, v2, v3, v4, v5, v6])
def Ez (v0 v1 v2 : D) : D := Al ts 40 (.row [.int (0 : Nat), v0, v1, v2])
def Pp (v0 v1 v2 v3 : D) : D := Al ts 40 (.row [.int (1 : Nat), v0, v1, v2, v3])
def Gg (v0 v1 v2 : D) : D := Al ts 44 (.row [.int (0 : Nat), v0, v1, v2])
def Gh (v0 v1 v2 v3 v4 v5 v6 v7 v8 v9 v10 : D) : D := Al ts 45 (.row [.int (0 : Nat), v0, v1, v2, v3, v4, v5, v6, v7, v8, v9, v10])
def Sj (v0 v1 v2 v3 v4 v5 v6 v7 v8 v9 v10 v11 v12 v13 v14 v15 v16 v17 v18 v19 v20 v21 v22 v23 v24 v25 v26 v27 v28 v29 : D) : D := Al ts 46 (.row [.int (0 : Nat), v0, v1, v2, v3, v4, v5, v6, v7, v8, v9, v10, v11, v12, v13, v14, v15, v16, v17, v18, v19, v20, v21, v22, v23, v24, v25, v26, v27, v28, v29])
def Lm (v0 v1 v2 v3 v4 v5 v6 v7 v8 v9 v10 v11 v12 v13 v14 v15 v16 v17 v18 v19 v20 v21 v22 v23 v24 v25 v26 v27 v28 v29 v30 : D) : D := Al ts 46 (.row [.int (1 : Nat), v0, v1, v2, v3, v4, v5, v6, v7, v8, v9, v10, v11, v12, v13, v14, v15, v16, v17, v18, v19, v20, v21, v22, v23, v24, v25, v26, v27, v28, v29, v30])
def RO (v0 v1 v2 v3 v4 v5 v6 v7 v8 v9 v10 v11 v12 v13 v14 v15 v16 v17 v18 v19 v20 v21 : D) : D := Al ts 47 (.row [.int (0 : Nat), v0, v1, v2, v3, v4, v5, v6, v7, v8, v9, v10, v11, v12, v13, v14, v15, v16, v17, v18, v19, v20, v21])
def Nb (v0 v1 v2 v3 v4 v5 v6 v7 v8 v9 v10 v11 v12 v13 v14 v15 v16 v17 v18 v19 v20 v21 v22 v23 v24 : D) : D := Al ts 47 (.row [.int (1 : Nat), v0, v1, v2, v3, v4, v5, v6, v7, v8, v9, v10, v11, v12, v13, v14, v15, v16, v17, v18, v19, v20, v21, v22, v23, v24])
def Pa (v0 v1 v2 v3 v4 v5 v6 v7 v8 v9 v10 v11 v12 v13 v14 v15 v16 v17 v18 v19 : D) : D := Al ts 48 (.row [.int (0 : Nat), v0, v1, v2, v3, v4, v5, v6, v7, v8, v9, v10, v11, v12, v13, v14, v15, v16, v17, v18, v19])
def D5 (v0 v1 v2 : D) : D := Al ts 49 (.row [.int (0 : Nat), v0, v1, v2])
def R5 (v0 v1 v2 v3 : D) : D := Al ts 49 (.row [.int (1 : Nat), v0, v1, v2, v3])
def JJ (v0 v1 v2 v3 v4 v5 v6 v7 v8 v9 v10 : D) : D := Al ts 50 (.row [.int (0 : Nat), v0, v1, v2, v3, v4, v5, v6, v7, v8, v9, v10])
def Hp (v0 v1 v2 v3 v4 v5 v6 v7 v8 v9 v10 v11 : D) : D := Al ts 51 (.row [.int (0 : Nat), v0, v1, v2, v3, v4, v5, v6, v7, v8, v9, v10, v11])
def KO (v0 v1 v2 v3 v4 v5 v6 v7 v8 v9 : D) : D := Al ts 52 (.row [.int (0 : Nat), v0, v1, v2, v3, v4, v5, v6, v7, v8, v9])
def H3 (v0 v1 v2 v3 v4 v5 v6 v7 v8 v9 v10 v11 : D) : D := Al ts 52 (.row [.int (1 : Nat), v0, v1, v2, v3, v4, v5, v6, v7, v8, v9, v10, v11])
def Ft (v0 v1 : D) : D := Al ts 53 (.row [.int (0 : Nat), v0, v1])
def P0 (v0 v1 v2 v3 v4 v5 v6 v7 v8 v9 v10 v11 v12 v13 : D) : D := Al ts 54 (.row [.int (0 : Nat), v0, v1, v2, v3, v4, v5, v6, v7, v8, v9, v10, v11, v12, v13])
def SU (v0 v1 v2 v3 v4 v5 v6 v7 v8 v9 v10 v11 v12 v13 v14 : D) : D := Al ts 54 (.row [.int (1 : Nat), v0, v1, v2, v3, v4, v5, v6, v7, v8, v9, v10, v11, v12, v13, v14])
def Ex (v0 v1 v2 v3 v4 v5 v6 v7 v8 v9 v10 v11 v12 v13 v14 v15 v16 v17 v18 v19 v20 v21 v22 v23 v24 v25 v26 v27 v28 v29 : D) : D := Al ts 55 (.row [.int (0 : Nat), v0, v1, v2, v3, v4, v5, v6, v7, v8, v9, v10, v11, v12, v13, v14, v15, v16, v17, v18, v19, v20, v21, v22, v23, v24, v25, v26, v27, v28, v29])
def Np (v0 v1 v2 v3 v4 v5 v6 v7 v8 v9 v10 v11 v12 v13 v14 v15 v16 v17 v18 v19 v20 v21 v22 v23 v24 v25 v26 v27 v28 v29 v30 : D) : D := Al ts 55 (.row [.int (1 : Nat), v0, v1, v2, v3, v4, v5, v6, v7, v8, v9, v10, v11, v12, v13, v14, v15, v16, v17, v18, v19, v20, v21, v22, v23, v24, v25, v26, v27, v28, v29, v30])
def JS (v0 v1 : D) : D := Al ts 57 (.row [.int (0 : Nat), v0, v1])
def Gi (v0 v1 v2 v3 v4 : D) : D := Al ts 58 (.row [.int (0 : Nat), v0, v1, v2, v3, v4])
def DU (v0 v1 : D) : D := Al ts 59 (.row [.int (0 : Nat), v0, v1])
def Sx (v0 v1 v2 v3 v4 v5 v6 v7 v8 v9 v10 v11 v12 v13 v14 v15 v16 v17 v18 v19 v20 v21 v22 v23 v24 v25 v26 v27 v28 v29 : D) : D := Al ts 60 (.row [.int (0 : Nat), v0, v1, v2, v3, v4, v5, v6, v7, v8, v9, v10, v11, v12, v13, v14, v15, v16, v17, v18, v19, v20, v21, v22, v23, v24, v25, v26, v27, v28, v29])
def LO (v0 v1 v2 v3 v4 v5 v6 v7 v8 v9 v10 v11 v12 v13 v14 v15 v16 v17 v18 v19 v20 v21 v22 v23 v24 v25 v26 v27 v28 v29 v30 : D) : D := Al ts 60 (.row [.int (1 : Nat), v0, v1, v2, v3, v4, v5, v6, v7, v8, v9, v10, v11, v12, v13, v14, v15, v16, v17, v18, v19, v20, v21, v22, v23, v24, v25, v26, v27, v28, v29, v30])
def KY (v0 v1 v2 v3 v4 v5 v6 v7 v8 v9 v10 v11 v12 v13 v14 v15 v16 v17 v18 v19 v20 v21 v22 v23 v24 v25 : D) : D := Al ts 61 (.row [.int (0 : Nat), v0, v1, v2, v3, v4, v5, v6, v7, v8, v9, v10, v11, v12, v13, v14, v15, v16, v17, v18, v19, v20, v21, v22, v23, v24, v25])
def ME (v0 v1 v2 v3 v4 v5 v6 v7 v8 v9 v10 v11 v12 v13 v14 v15 v16 v17 v18 v19 v20 v21 v22 v23 v24 v25 v26 : D) : D := Al ts 61 (.row [.int (1 : Nat), v0, v1, v2, v3, v4, v5, v6, v7, v8, v9, v10, v11, v12, v13, v14, v15, v16, v17, v18, v19, v20, v21, v22, v23, v24, v25, v26])
def P3 (v0 v1 v2 v3 v4 v5 v6 v7 v8 v9 v10 v11 v12 v13 v14 v15 v16 v17 v18 v19 v20 : D) : D := Al ts 62 (.row [.int (0 : Nat), v0, v1, v2, v3, v4, v5, v6, v7, v8, v9, v10, v11, v12, v13, v14, v15, v16, v17, v18, v19, v20])
def R7 (v0 v1 v2 v3 v4 v5 v6 v7 v8 v9 v10 : D) : D := Al ts 63 (.row [.int (0 : Nat), v0, v1, v2, v3, v4, v5, v6, v7, v8, v9, v10])
def P7 (v0 v1 v2 v3 v4 v5 v6 v7 v8 v9 v10 v11 v12 : D) : D := Al ts 63 (.row [.int (1 : Nat), v0, v1, v2, v3, v4, v5, v6, v7, v8, v9, v10, v11, v12])
def JL (v0 v1 v2 v3 : D) : D := Al ts 64 (.row [.int (0 : Nat), v0, v1, v2, v3])
def Sy (v0 v1 v2 v3 v4 : D) : D := Al ts 64 (.row [.int (1 : Nat), v0, v1, v2, v3, v4])
def Md (v0 v1 v2 v3 v4 v5 v6 v7 v8 v9 v10 v11 v12 v13 v14 v15 v16 v17 v18 v19 v20 v21 v22 v23 v24 v25 v26 v27 v28 v29 v30 v31 v32 v33 v34 : D) : D := Al ts 65 (.row [.int (0 : Nat), v0, v1, v2, v3, v4, v5, v6, v7, v8, v9, v10, v11, v12, v13, v14, v15, v16, v17, v18, v19, v20, v21, v22, v23, v24, v25, v26, v27, v28, v29, v30, v31, v32, v33, v34])
def Mc (v0 v1 v2 v3 v4 v5 v6 v7 v8 v9 v10 v11 v12 v13 v14 v15 v16 v17 v18 v19 v20 v21 v22 v23 v24 v25 v26 v27 v28 v29 v30 v31 v32 v33 v34 v35 : D) : D := Al ts 65 (.row [.int (1 : Nat), v0, v1, v2, v3, v4, v5, v6, v7, v8, v9, v10, v11, v12, v13, v14, v15, v16, v17, v18, v19, v20, v21, v22, v23, v24, v25, v26, v27, v28, v29, v30, v31, v32, v33, v34, v35])
def Ff (v0 v1 v2 v3 v4 v5 v6 v7 v8 v9 v10 : D) : D := Al ts 66 (.row [.int (0 : Nat), v0, v1, v2, v3, v4, v5, v6, v7, v8, v9, v10])
def Ns (v0 v1 v2 v3 v4 v5 v6 v7 v8 v9 v10 v11 v12 v13 v14 v15 v16 v17 v18 v19 v20 v21 v22 v23 v24 v25 v26 v27 : D) : D := Al ts 67 (.row [.int (0 : Nat), v0, v1, v2, v3, v4, v5, v6, v7, v8, v9, v10, v11, v12, v13, v14, v15, v16, v17, v18, v19, v20, v21, v22, v23, v24, v25, v26, v27])
def CJ (v0 v1 v2 v3 v4 v5 v6 v7 v8 v9 v10 v11 v12 v13 v14 v15 v16 v17 v18 v19 v20 v21 : D) : D := Al ts 68 (.row [.int (0 : Nat), v0, v1, v2, v3, v4, v5, v6, v7, v8, v9, v10, v11, v12, v13, v14, v15, v16, v17, v18, v19, v20, v21])
def OW (v0 v1 v2 v3 v4 v5 v6 v7 v8 v9 v10 : D) : D := Al ts 69 (.row [.int (0 : Nat), v0, v1, v2, v3, v4, v5, v6, v7, v8, v9, v10])
def Cw (v0 v1 v2 v3 v4 v5 v6 v7 v8 v9 v10 v11 : D) : D := Al ts 70 (.row [.int (0 : Nat), v0, v1, v2, v3, v4, v5, v6, v7, v8, v9, v10, v11])
def K7 (v0 v1 v2 v3 v4 v5 v6 v7 v8 v9 v10 v11 v12 v13 v14 v15 v16 v17 v18 v19 v20 v21 v22 v23 v24 v25 v26 v27 v28 v29 v30 v31 : D) : D := Al ts 71 (.row [.int (0 : Nat), v0, v1, v2, v3, v4, v5, v6, v7, v8, v9, v10, v11, v12, v13, v14, v15, v16, v17, v18, v19, v20, v21, v22, v23, v24, v25, v26, v27, v28, v29, v30, v31])
def Ir (v0 v1 v2 v3 v4 v5 v6 v7 v8 v9 v10 v11 v12 v13 v14 v15 v16 v17 v18 v19 v20 v21 v22 v23 v24 v25 v26 v27 v28 v29 v30 v31 v32 : D) : D := Al ts 71 (.row [.int (1 : Nat), v0, v1, v2, v3, v4, v5, v6, v7, v8, v9, v10, v11, v12, v13, v14, v15, v16, v17, v18, v19, v20, v21, v22, v23, v24, v25, v26, v27, v28, v29, v30, v31, v32])
def MX (v0 v1 v2 v3 v4 v5 v6 v7 v8 v9 v10 v11 v12 v13 v14 v15 v16 v17 v18 v19 v20 v21 v22 : D) : D := Al ts 72 (.row [.int (0 : Nat), v0, v1, v2, v3, v4, v5, v6, v7, v8, v9, v10, v11, v12, v13, v14, v15, v16, v17, v18, v19, v20, v21, v22])
def MN (v0 v1 v2 v3 v4 v5 v6 v7 v8 v9 v10 v11 v12 : D) : D := Al ts 73 (.row [.int (0 : Nat), v0, v1, v2, v3, v4, v5, v6, v7, v8, v9, v10, v11, v12])
def JQ (v0 v1 v2 v3 v4 v5 v6 v7 v8 v9 v10 v11 v12 v13 : D) : D := Al ts 73 (.row [.int (1 : Nat), v0, v1, v2, v3, v4, v5, v6, v7, v8, v9, v10, v11, v12, v13])
def Fd (v0 v1 : D) : D := Al ts 74 (.row [.int (0 : Nat), v0, v1])
def O6 (v0 v1 : D) : D := Al ts 75 (.row [.int (0 : Nat), v0, v1])
def Vf (v0 v1 v2 v3 v4 v5 v6 v7 v8 v9 v10 v11 v12 v13 v14 v15 v16 v17 v18 v19 : D) : D := Al ts 76 (.row [.int (0 : Nat), v0, v1, v2, v3, v4, v5, v6, v7, v8, v9, v10, v11, v12, v13, v14, v15, v16, v17, v18, v19])
def Wj (v0 v1 v2 v3 v4 v5 v6 v7 v8 v9 v10 v11 v12 v13 v14 v15 v16 v17 v18 v19 v20 v21 v22 v23 v24 v25 v26 v27 v28 v29 v30 v31 v32 v33 v34 : D) : D := Al ts 77 (.row [.int (0 : Nat), v0, v1, v2, v3, v4, v5, v6, v7, v8, v9, v10, v11, v12, v13, v14, v15, v16, v17, v18, v19, v20, v21, v22, v23, v24, v25, v26, v27, v28, v29, v30, v31, v32, v33, v34])
def RT (v0 v1 v2 v3 v4 v5 v6 v7 v8 v9 v10 v11 v12 v13 v14 v15 v16 v17 v18 v19 v20 v21 v22 v23 v24 v25 v26 v27 v28 v29 v30 v31 v32 v33 v34 v35 v36 v37 v38 v39 v40 v41 v42 v43 v44 v45 v46 v47 : D) : D := Al ts 77 (.row [.int (1 : Nat), v0, v1, v2, v3, v4, v5, v6, v7, v8, v9, v10, v11, v12, v13, v14, v15, v16, v17, v18, v19, v20, v21, v22, v23, v24, v25, v26, v27, v28, v29, v30, v31, v32, v33, v34, v35, v36, v37, v38, v39, v40, v41, v42, v43, v44, v45, v46, v47])
def OT (v0 v1 v2 v3 : D) : D := Al ts 78 (.row [.int (0 : Nat), v0, v1, v2, v3])
def SX (v0 v1 v2 v3 v4 : D) : D := Al ts 78 (.row [.int (1 : Nat), v0, v1, v2, v3, v4])
def Qg (v0 v1 : D) : D := Al ts 79 (.row [.int (0 : Nat), v0, v1])
def Su (v0 v1 v2 v3 v4 v5 v6 v7 v8 v9 v10 v11 v12 v13 v14 v15 v16 v17 v18 v19 : D) : D := Al ts 80 (.row [.int (0 : Nat), v0, v1, v2, v3, v4, v5, v6, v7, v8, v9, v10, v11, v12, v13, v14, v15, v16, v17, v18, v19])
def Zd (v0 v1 v2 v3 v4 v5 v6 v7 : D) : D := Al ts 81 (.row [.int (0 : Nat), v0, v1, v2, v3, v4, v5, v6, v7])
def MK (v0 v1 v2 v3 v4 v5 v6 v7 v8 v9 v10 v11 v12 v13 v14 v15 v16 v17 v18 v19 v20 v21 v22 v23 v24 v25 v26 v27 v28 v29 v30 v31 v32 : D) : D := Al ts 81 (.row [.int (1 : Nat), v0, v1, v2, v3, v4, v5, v6, v7, v8, v9, v10, v11, v12, v13, v14, v15, v16, v17, v18, v19, v20, v21, v22, v23, v24, v25, v26, v27, v28, v29, v30, v31, v32])
def Yq (v0 v1 v2 v3 v4 v5 v6 v7 v8 v9 v10 v11 v12 v13 v14 v15 v16 v17 v18 v19 v20 v21 v22 v23 v24 v25 v26 v27 v28 v29 v30 v31 v32 v33 v34 v35 : D) : D := Al ts 81 (.row [.int (2 : Nat), v0, v1, v2, v3, v4, v5, v6, v7, v8, v9, v10, v11, v12, v13, v14, v15, v16, v17, v18, v19, v20, v21, v22, v23, v24, v25, v26, v27, v28, v29, v30, v31, v32, v33, v34, v35])
def My (v0 v1 v2 v3 v4 v5 v6 v7 v8 v9 v10 v11 v12 v13 v14 v15 v16 v17 v18 v19 v20 v21 v22 v23 v24 v25 v26 v27 v28 v29 v30 v31 v32 v33 v34 v35 v36 : D) : D := Al ts 81 (.row [.int (3 : Nat), v0, v1, v2, v3, v4, v5, v6, v7, v8, v9, v10, v11, v12, v13, v14, v15, v16, v17, v18, v19, v20, v21, v22, v23, v24, v25, v26, v27, v28, v29, v30, v31, v32, v33, v34, v35, v36])
theorem mL (v0 v1 v2 v3 : D) : UE v0 v1 v2 v3 =
  cond (6 < (len v2 : Int)) (
 .row [.int 1, (.bool true)]) (
 cond (8 < (len v1 : Int)) (
 .row [.int 1, (.bool true)]) (
 cond (14 < (len v3 : Int)) (
 .row [.int 1, (.bool true)]) (
 cond (60 < (A5 v0 : Int)) (
 .row [.int 1, (.bool true)]) (
 WE (.int 0) v0 v1 v2 v3)))) := gw rfl rfl rfl
theorem kZ (v0 : Int) (v1 v2 v3 v4 : D) : WE (.int v0) v1 v2 v3 v4 =
  cond (v0 < len v3) (
 cond (v0 < 0) (
 .row []) (
 cond (60 < (A5 (cl v3 v0 0) : Int)) (
 .row [.int 1, (.bool true)]) (
 WE (.int (IntKind.wrap .i64 (v0 + 1))) v1 v2 v3 v4))) (
 TV (.int 0) v1 v2 v3 v4) := gw rfl rfl rfl
theorem iX (v0 : Int) (v1 v2 v3 v4 : D) : TV (.int v0) v1 v2 v3 v4 =
  cond (v0 < len v2) (
 cond (v0 < 0) (
 .row []) (
 cond (60 < (A5 (cl v2 v0 0) : Int)) (
 .row [.int 1, (.bool true)]) (
 TV (.int (IntKind.wrap .i64 (v0 + 1))) v1 v2 v3 v4))) (
 TB (.int 0) v1 v2 v3 v4) := gw rfl rfl rfl
theorem cu (v0 : Int) (v1 v2 v3 v4 : D) : TB (.int v0) v1 v2 v3 v4 =
  cond (v0 < len v4) (
 cond (v0 < 0) (
 .row []) (
 cond (60 < (A5 (cl v4 v0 0) : Int)) (
 .row [.int 1, (.bool true)]) (
 cond (60 < (A5 (cl v4 v0 1) : Int)) (
 .row [.int 1, (.bool true)]) (
 cond (60 < (A5 (cl v4 v0 3) : Int)) (
 .row [.int 1, (.bool true)]) (
 cond (60 < (A5 (cl v4 v0 4) : Int)) (
 .row [.int 1, (.bool true)]) (
 cond (60 < (A5 (cl v4 v0 5) : Int)) (
 .row [.int 1, (.bool true)]) (
 TB (.int (IntKind.wrap .i64 (v0 + 1))) v1 v2 v3 v4))))))) (
 .row [.int 1, (.bool false)]) := gw rfl rfl rfl
theorem mZ : I2 =
 .row [.int 1] := gw rfl rfl rfl
theorem mj (v0 : D) : GN v0 =
  cond ((A5 v0 : Int) < 1) (
 .row [.int 1, (.bool false)]) (
 cond (32 < (A5 v0 : Int)) (
 .row [.int 1, (.bool false)]) (
 Rm (PB v0) (.int (len (PB v0) : Int)) (.int 0))) := gw rfl rfl rfl
theorem Zx (v0 : D) (v1 v2 : Int) : Rm v0 (.int v1) (.int v2) =
  cond (v2 < v1) (
 cond (v2 < 0) (
 .row []) (
 cond (v2 < len v0) (
 cond ((IntKind.wrap .u8 (cl v0 v2 0).toInt) < 97) (
 cond ((IntKind.wrap .u8 (cl v0 v2 0).toInt) < 65) (
 cond (v2 = 0) (
 .row [.int 1, (.bool false)]) (
 cond ((IntKind.wrap .u8 (cl v0 v2 0).toInt) < 48) (
 .row [.int 1, (.bool false)]) (
 cond (57 < (IntKind.wrap .u8 (cl v0 v2 0).toInt)) (
 .row [.int 1, (.bool false)]) (
 Rm v0 (.int v1) (.int (IntKind.wrap .i64 (v2 + 1))))))) (
 cond (90 < (IntKind.wrap .u8 (cl v0 v2 0).toInt)) (
 cond (v2 = 0) (
 .row [.int 1, (.bool false)]) (
 cond ((IntKind.wrap .u8 (cl v0 v2 0).toInt) = 95) (
 Rm v0 (.int v1) (.int (IntKind.wrap .i64 (v2 + 1)))) (
 .row [.int 1, (.bool false)]))) (
 Rm v0 (.int v1) (.int (IntKind.wrap .i64 (v2 + 1)))))) (
 cond (122 < (IntKind.wrap .u8 (cl v0 v2 0).toInt)) (
 cond (v2 = 0) (
 .row [.int 1, (.bool false)]) (
 .row [.int 1, (.bool false)])) (
 Rm v0 (.int v1) (.int (IntKind.wrap .i64 (v2 + 1)))))) (
 .row []))) (
 .row [.int 1, (.bool true)]) := gw rfl rfl (cL (cL rfl (cL (cL (cL (cQ rfl rfl) (cL (cQ rfl (cQ rfl rfl)) rfl)) (cL (cQ rfl rfl) rfl)) rfl)) rfl)
theorem mT (v0 v1 : D) : UF v0 v1 =
 Xc v0 (.int 0) v1 := gw rfl rfl rfl
theorem nh (v0 : D) (v1 : Int) (v2 : D) : Xc v0 (.int v1) v2 =
  cond (v1 < len v0) (
 cond (v1 < 0) (
 .row []) (
 cond (D.strEq (cl v0 v1 0) v2) (
 .row [.int 1, (.int v1)]) (
 Xc v0 (.int (IntKind.wrap .i64 (v1 + 1))) v2))) (
 .row [.int 1, (.int (-1))]) := gw rfl rfl rfl
theorem mw (v0 v1 v2 : Int) (v3 v4 v5 v6 : D) : UA (.int v0) (.int v1) (.int v2) v3 v4 v5 v6 =
  cond (v0 < v1) (
 .row [.int 1, (.int 0)]) (
 cond (v2 < v0) (
 .row [.int 1, (.int v2)]) (
 TC (.int v0) (.int 0) v3 v4 v5 v6)) := gw rfl rfl rfl
theorem kg (v0 v1 : Int) (v2 v3 v4 v5 : D) : TC (.int v0) (.int v1) v2 v3 v4 v5 =
  cond (v1 < v0) (
 cond (v1 < 0) (
 .row []) (
 cond (v1 < len v4) (
 cond ((sl (GN (cl v4 v1 0)) 0).toInt = 1) (
 cond ((sl (GN (cl v4 v1 0)) 1).toBool) (
 cond ((sl (UF v4 (cl v4 v1 0)) 0).toInt = 1) (
 cond ((sl (UF v4 (cl v4 v1 0)) 1).toInt < v1) (
 .row [.int 1, (.int v1)]) (
 cond ((cl v4 v1 1).toInt < 1) (
 .row [.int 1, (.int v1)]) (
 cond (1000 < (cl v4 v1 1).toInt) (
 .row [.int 1, (.int v1)]) (
 TC (.int v0) (.int (IntKind.wrap .i64 (v1 + 1))) v2 v3 v4 v5)))) (
 .row [])) (
 .row [.int 1, (.int v1)])) (
 .row [])) (
 .row []))) (
 .row [.int 1, (.int (-1))]) := gw rfl rfl (cL (cL rfl (cL (cQ (cg rfl (cQ (cL rfl (cL rfl (cL rfl rfl))) rfl) rfl) rfl) rfl)) rfl)
theorem nq (v0 v1 : D) : Je v0 v1 =
 XZ v0 (.int 0) v1 := gw rfl rfl rfl
theorem mU (v0 : D) (v1 : Int) (v2 : D) : XZ v0 (.int v1) v2 =
  cond (v1 < len v0) (
 cond (v1 < 0) (
 .row []) (
 cond (D.strEq (cl v0 v1 0) v2) (
 .row [.int 1, (.int v1)]) (
 XZ v0 (.int (IntKind.wrap .i64 (v1 + 1))) v2))) (
 .row [.int 1, (.int (-1))]) := gw rfl rfl rfl
theorem nb (v0 v1 v2 : Int) (v3 v4 v5 v6 : D) : Vp (.int v0) (.int v1) (.int v2) v3 v4 v5 v6 =
  cond (v0 < v1) (
 .row [.int 1, (.int 0)]) (
 cond (v2 < v0) (
 .row [.int 1, (.int v2)]) (
 TG (.int v0) (.int 0) v3 v4 v5 v6)) := gw rfl rfl rfl
theorem fU (v0 v1 : Int) (v2 v3 v4 v5 : D) : TG (.int v0) (.int v1) v2 v3 v4 v5 =
  cond (v1 < v0) (
 cond (v1 < 0) (
 .row []) (
 cond (v1 < len v3) (
 cond ((sl (GN (cl v3 v1 0)) 0).toInt = 1) (
 cond ((sl (GN (cl v3 v1 0)) 1).toBool) (
 cond ((sl (Je v3 (cl v3 v1 0)) 0).toInt = 1) (
 cond ((sl (Je v3 (cl v3 v1 0)) 1).toInt < v1) (
 .row [.int 1, (.int v1)]) (
 cond ((cl v3 v1 2).toInt < 0) (
 .row [.int 1, (.int v1)]) (
 cond (1048576 < (cl v3 v1 2).toInt) (
 .row [.int 1, (.int v1)]) (
 TG (.int v0) (.int (IntKind.wrap .i64 (v1 + 1))) v2 v3 v4 v5)))) (
 .row [])) (
 .row [.int 1, (.int v1)])) (
 .row [])) (
 .row []))) (
 .row [.int 1, (.int (-1))]) := gw rfl rfl (cL (cL rfl (cL (cQ (cg rfl (cQ (cL rfl (cL rfl (cL rfl rfl))) rfl) rfl) rfl) rfl)) rfl)
theorem nw (v0 v1 v2 : D) (v3 : Int) (v4 v5 v6 : D) (v7 v8 v9 : Int) : ap v0 v1 v2 (.int v3) v4 v5 v6 (.int v7) (.int v8) (.int v9) =
 Ta v0 (.int 0) v1 v2 (.int v3) v4 v5 v6 (.int v7) (.int v8) (.int v9) := gw rfl rfl rfl
theorem gk (v0 : D) (v1 : Int) (v2 v3 : D) (v4 : Int) (v5 v6 v7 : D) (v8 v9 v10 : Int) : Ta v0 (.int v1) v2 v3 (.int v4) v5 v6 v7 (.int v8) (.int v9) (.int v10) =
  cond (v1 < len v0) (
 cond (v1 < 0) (
 .row []) (
 cond ((D.strEq v2 (cl v0 v1 0) && (D.strEq v3 (cl v0 v1 1) && (decide (v4 = (cl v0 v1 2).toInt) && (D.strEq v5 (cl v0 v1 3) && (D.strEq v6 (cl v0 v1 4) && (D.strEq v7 (cl v0 v1 5) && (decide (v8 = (cl v0 v1 6).toInt) && (decide (v9 = (cl v0 v1 7).toInt) && decide (v10 = (cl v0 v1 8).toInt)))))))))) (
 .row [.int 1, (.int v1)]) (
 Ta v0 (.int (IntKind.wrap .i64 (v1 + 1))) v2 v3 (.int v4) v5 v6 v7 (.int v8) (.int v9) (.int v10)))) (
 .row [.int 1, (.int (-1))]) := gw rfl rfl (cL (cL rfl (cg (aE rfl (aE rfl (aE (qE rfl rfl) (aE rfl (aE rfl (aE rfl (aE (qE rfl rfl) (aE (qE rfl rfl) (qE rfl rfl))))))))) rfl rfl)) rfl)
theorem mq (v0 v1 v2 : Int) (v3 v4 v5 v6 : D) : V2 (.int v0) (.int v1) (.int v2) v3 v4 v5 v6 =
  cond (v0 < v1) (
 .row [.int 1, (.int 0)]) (
 cond (v2 < v0) (
 .row [.int 1, (.int v2)]) (
 HI (.int v0) (.int 0) v3 v4 v5 v6)) := gw rfl rfl rfl
theorem iK (v0 v1 : Int) (v2 v3 v4 v5 : D) {F0 F1 F2 : D} (h0 : ap (sb v5 0 v1) (cl v5 v1 0) (cl v5 v1 1) (cl v5 v1 2) (cl v5 v1 3) (cl v5 v1 4) (cl v5 v1 5) (cl v5 v1 6) (cl v5 v1 7) (cl v5 v1 8) = F0) (h1 : UF v4 (cl v5 v1 5) = F1) (h2 : Je v3 (cl v5 v1 0) = F2) : HI (.int v0) (.int v1) v2 v3 v4 v5 =
  cond (v1 < v0) (
 cond (v1 < 0) (
 .row []) (
 cond (v1 < len v5) (
 cond ((cl v5 v1 2).toInt = 1) (
 cond ((sl F2 0).toInt = 1) (
 cond ((sl F1 0).toInt = 1) (
 cond ((sl F2 1).toInt < 0) (
 .row [.int 1, (.int v1)]) (
 cond ((sl (Je v3 (cl v5 v1 1)) 0).toInt = 1) (
 cond ((sl (Je v3 (cl v5 v1 1)) 1).toInt < 0) (
 .row [.int 1, (.int v1)]) (
 cond (len v5 < v1) (
 .row []) (
 cond ((sl F0 0).toInt = 1) (
 cond ((sl F0 1).toInt < 0) (
 cond ((sl F2 1).toInt < len v3) (
 cond ((sl (GN (cl v5 v1 3)) 0).toInt = 1) (
 cond ((sl (GN (cl v5 v1 3)) 1).toBool) (
 cond ((sl (GN (cl v5 v1 4)) 0).toInt = 1) (
 cond ((sl (GN (cl v5 v1 4)) 1).toBool) (
 cond (D.strEq (cl v5 v1 4) v2) (
 .row [.int 1, (.int v1)]) (
 cond (eqC (cl v5 v1 5) 0 0) (
 cond ((cl v5 v1 6).toInt = 0) (
 cond ((cl v5 v1 7).toInt = 0) (
 cond ((cl v5 v1 8).toInt = 0) (
 HI (.int v0) (.int (IntKind.wrap .i64 (v1 + 1))) v2 v3 v4 v5) (
 .row [.int 1, (.int v1)])) (
 .row [.int 1, (.int v1)])) (
 .row [.int 1, (.int v1)])) (
 cond ((sl F1 1).toInt < 0) (
 .row [.int 1, (.int v1)]) (
 cond ((cl v5 v1 6).toInt < 0) (
 .row [.int 1, (.int v1)]) (
 cond ((cl v5 v1 7).toInt < (cl v5 v1 6).toInt) (
 .row [.int 1, (.int v1)]) (
 cond ((cl v5 v1 8).toInt < (-1000)) (
 .row [.int 1, (.int v1)]) (
 cond (1000 < (cl v5 v1 8).toInt) (
 .row [.int 1, (.int v1)]) (
 cond ((sl F1 1).toInt < len v4) (
 cond ((cl v4 (sl F1 1).toInt 1).toInt < (cl v5 v1 7).toInt) (
 .row [.int 1, (.int v1)]) (
 cond ((IntKind.wrap .i64 ((cl v5 v1 6).toInt + (cl v5 v1 8).toInt)) < 0) (
 .row [.int 1, (.int v1)]) (
 cond ((cl v4 (sl F1 1).toInt 1).toInt < (IntKind.wrap .i64 ((cl v5 v1 7).toInt + (cl v5 v1 8).toInt))) (
 .row [.int 1, (.int v1)]) (
 HI (.int v0) (.int (IntKind.wrap .i64 (v1 + 1))) v2 v3 v4 v5)))) (
 .row []))))))))) (
 .row [.int 1, (.int v1)])) (
 .row [])) (
 .row [.int 1, (.int v1)])) (
 .row [])) (
 .row [])) (
 .row [.int 1, (.int v1)])) (
 .row [])))) (
 .row []))) (
 .row [])) (
 .row [])) (
 cond ((cl v5 v1 2).toInt = 2) (
 cond ((sl F2 0).toInt = 1) (
 cond ((sl F1 0).toInt = 1) (
 cond ((sl F2 1).toInt < 0) (
 .row [.int 1, (.int v1)]) (
 cond ((sl (Je v3 (cl v5 v1 1)) 0).toInt = 1) (
 cond ((sl (Je v3 (cl v5 v1 1)) 1).toInt < 0) (
 .row [.int 1, (.int v1)]) (
 cond (len v5 < v1) (
 .row []) (
 cond ((sl F0 0).toInt = 1) (
 cond ((sl F0 1).toInt < 0) (
 cond ((sl F2 1).toInt < len v3) (
 cond ((sl (GN (cl v5 v1 3)) 0).toInt = 1) (
 cond ((sl (GN (cl v5 v1 3)) 1).toBool) (
 cond ((sl (GN (cl v5 v1 4)) 0).toInt = 1) (
 cond ((sl (GN (cl v5 v1 4)) 1).toBool) (
 cond (D.strEq (cl v5 v1 4) v2) (
 .row [.int 1, (.int v1)]) (
 cond (eqC (cl v5 v1 5) 0 0) (
 cond ((cl v5 v1 6).toInt = 0) (
 cond ((cl v5 v1 7).toInt = 0) (
 cond ((cl v5 v1 8).toInt = 0) (
 HI (.int v0) (.int (IntKind.wrap .i64 (v1 + 1))) v2 v3 v4 v5) (
 .row [.int 1, (.int v1)])) (
 .row [.int 1, (.int v1)])) (
 .row [.int 1, (.int v1)])) (
 cond ((sl F1 1).toInt < 0) (
 .row [.int 1, (.int v1)]) (
 cond ((cl v5 v1 6).toInt < 0) (
 .row [.int 1, (.int v1)]) (
 cond ((cl v5 v1 7).toInt < (cl v5 v1 6).toInt) (
 .row [.int 1, (.int v1)]) (
 cond ((cl v5 v1 8).toInt < (-1000)) (
 .row [.int 1, (.int v1)]) (
 cond (1000 < (cl v5 v1 8).toInt) (
 .row [.int 1, (.int v1)]) (
 cond ((sl F1 1).toInt < len v4) (
 cond ((cl v4 (sl F1 1).toInt 1).toInt < (cl v5 v1 7).toInt) (
 .row [.int 1, (.int v1)]) (
 cond ((IntKind.wrap .i64 ((cl v5 v1 6).toInt + (cl v5 v1 8).toInt)) < 0) (
 .row [.int 1, (.int v1)]) (
 cond ((cl v4 (sl F1 1).toInt 1).toInt < (IntKind.wrap .i64 ((cl v5 v1 7).toInt + (cl v5 v1 8).toInt))) (
 .row [.int 1, (.int v1)]) (
 HI (.int v0) (.int (IntKind.wrap .i64 (v1 + 1))) v2 v3 v4 v5)))) (
 .row []))))))))) (
 .row [.int 1, (.int v1)])) (
 .row [])) (
 .row [.int 1, (.int v1)])) (
 .row [])) (
 .row [])) (
 .row [.int 1, (.int v1)])) (
 .row [])))) (
 .row []))) (
 .row [])) (
 .row [])) (
 cond ((cl v5 v1 2).toInt = 3) (
 cond ((sl F2 0).toInt = 1) (
 cond ((sl F1 0).toInt = 1) (
 cond ((sl F2 1).toInt < 0) (
 .row [.int 1, (.int v1)]) (
 cond ((sl (Je v3 (cl v5 v1 1)) 0).toInt = 1) (
 cond ((sl (Je v3 (cl v5 v1 1)) 1).toInt < 0) (
 .row [.int 1, (.int v1)]) (
 cond (len v5 < v1) (
 .row []) (
 cond ((sl F0 0).toInt = 1) (
 cond ((sl F0 1).toInt < 0) (
 cond ((sl F2 1).toInt < len v3) (
 cond (0 < (cl v3 (sl F2 1).toInt 2).toInt) (
 cond ((A5 (cl v5 v1 3) : Int) < 4611686018427387904) (
 cond ((A5 (cl v5 v1 4) : Int) < 4611686018427387904) (
 cond (eqC (Xh (cl v5 v1 3) (cl v5 v1 4)) 0 0) (
 cond (eqC (cl v5 v1 5) 0 0) (
 cond ((cl v5 v1 6).toInt = 0) (
 cond ((cl v5 v1 7).toInt = 0) (
 cond ((cl v5 v1 8).toInt = 0) (
 HI (.int v0) (.int (IntKind.wrap .i64 (v1 + 1))) v2 v3 v4 v5) (
 .row [.int 1, (.int v1)])) (
 .row [.int 1, (.int v1)])) (
 .row [.int 1, (.int v1)])) (
 cond ((sl F1 1).toInt < 0) (
 .row [.int 1, (.int v1)]) (
 cond ((cl v5 v1 6).toInt < 0) (
 .row [.int 1, (.int v1)]) (
 cond ((cl v5 v1 7).toInt < (cl v5 v1 6).toInt) (
 .row [.int 1, (.int v1)]) (
 cond ((cl v5 v1 8).toInt < (-1000)) (
 .row [.int 1, (.int v1)]) (
 cond (1000 < (cl v5 v1 8).toInt) (
 .row [.int 1, (.int v1)]) (
 cond ((sl F1 1).toInt < len v4) (
 cond ((cl v4 (sl F1 1).toInt 1).toInt < (cl v5 v1 7).toInt) (
 .row [.int 1, (.int v1)]) (
 cond ((IntKind.wrap .i64 ((cl v5 v1 6).toInt + (cl v5 v1 8).toInt)) < 0) (
 .row [.int 1, (.int v1)]) (
 cond ((cl v4 (sl F1 1).toInt 1).toInt < (IntKind.wrap .i64 ((cl v5 v1 7).toInt + (cl v5 v1 8).toInt))) (
 .row [.int 1, (.int v1)]) (
 HI (.int v0) (.int (IntKind.wrap .i64 (v1 + 1))) v2 v3 v4 v5)))) (
 .row [])))))))) (
 .row [.int 1, (.int v1)])) (
 .row [])) (
 .row [])) (
 .row [.int 1, (.int v1)])) (
 .row [])) (
 .row [.int 1, (.int v1)])) (
 .row [])))) (
 .row []))) (
 .row [])) (
 .row [])) (
 cond ((cl v5 v1 2).toInt = 4) (
 cond ((sl F2 0).toInt = 1) (
 cond ((sl F1 0).toInt = 1) (
 cond ((sl F2 1).toInt < 0) (
 .row [.int 1, (.int v1)]) (
 cond ((sl (Je v3 (cl v5 v1 1)) 0).toInt = 1) (
 cond ((sl (Je v3 (cl v5 v1 1)) 1).toInt < 0) (
 .row [.int 1, (.int v1)]) (
 cond (len v5 < v1) (
 .row []) (
 cond ((sl F0 0).toInt = 1) (
 cond ((sl F0 1).toInt < 0) (
 cond ((sl F2 1).toInt < len v3) (
 cond ((A5 (cl v5 v1 3) : Int) < 4611686018427387904) (
 cond ((A5 (cl v5 v1 4) : Int) < 4611686018427387904) (
 cond (eqC (Xh (cl v5 v1 3) (cl v5 v1 4)) 0 0) (
 cond (eqC (cl v5 v1 5) 0 0) (
 cond ((cl v5 v1 6).toInt = 0) (
 cond ((cl v5 v1 7).toInt = 0) (
 cond ((cl v5 v1 8).toInt = 0) (
 HI (.int v0) (.int (IntKind.wrap .i64 (v1 + 1))) v2 v3 v4 v5) (
 .row [.int 1, (.int v1)])) (
 .row [.int 1, (.int v1)])) (
 .row [.int 1, (.int v1)])) (
 cond ((sl F1 1).toInt < 0) (
 .row [.int 1, (.int v1)]) (
 cond ((cl v5 v1 6).toInt < 0) (
 .row [.int 1, (.int v1)]) (
 cond ((cl v5 v1 7).toInt < (cl v5 v1 6).toInt) (
 .row [.int 1, (.int v1)]) (
 cond ((cl v5 v1 8).toInt < (-1000)) (
 .row [.int 1, (.int v1)]) (
 cond (1000 < (cl v5 v1 8).toInt) (
 .row [.int 1, (.int v1)]) (
 cond ((sl F1 1).toInt < len v4) (
 cond ((cl v4 (sl F1 1).toInt 1).toInt < (cl v5 v1 7).toInt) (
 .row [.int 1, (.int v1)]) (
 cond ((IntKind.wrap .i64 ((cl v5 v1 6).toInt + (cl v5 v1 8).toInt)) < 0) (
 .row [.int 1, (.int v1)]) (
 cond ((cl v4 (sl F1 1).toInt 1).toInt < (IntKind.wrap .i64 ((cl v5 v1 7).toInt + (cl v5 v1 8).toInt))) (
 .row [.int 1, (.int v1)]) (
 HI (.int v0) (.int (IntKind.wrap .i64 (v1 + 1))) v2 v3 v4 v5)))) (
 .row [])))))))) (
 .row [.int 1, (.int v1)])) (
 .row [])) (
 .row [])) (
 .row [])) (
 .row [.int 1, (.int v1)])) (
 .row [])))) (
 .row []))) (
 .row [])) (
 .row [])) (
 cond ((sl F2 0).toInt = 1) (
 cond ((sl F1 0).toInt = 1) (
 .row [.int 1, (.int v1)]) (
 .row [])) (
 .row [])))))) (
 .row []))) (
 .row [.int 1, (.int (-1))]) := by
  subst h0; subst h1; subst h2; exact gw rfl rfl (cL (cL rfl (cL (cQ (cQ (cQ (cL rfl (cQ (cL rfl (cL rfl (cQ (cL (cL (cQ (cg rfl (cQ (cg rfl (cg rfl rfl (cg rfl (cQ (cQ (cQ rfl rfl) rfl) rfl) (cL rfl (cL rfl (cL rfl (cL rfl (cL rfl rfl))))))) rfl) rfl) rfl) rfl) rfl) rfl) rfl))) rfl)) rfl) rfl) (cQ (cQ (cQ (cL rfl (cQ (cL rfl (cL rfl (cQ (cL (cL (cQ (cg rfl (cQ (cg rfl (cg rfl rfl (cg rfl (cQ (cQ (cQ rfl rfl) rfl) rfl) (cL rfl (cL rfl (cL rfl (cL rfl (cL rfl rfl))))))) rfl) rfl) rfl) rfl) rfl) rfl) rfl))) rfl)) rfl) rfl) (cQ (cQ (cQ (cL rfl (cQ (cL rfl (cL rfl (cQ (cL (cL (cL (cL (cL (cg rfl (cg rfl (cQ (cQ (cQ rfl rfl) rfl) rfl) (cL rfl (cL rfl (cL rfl (cL rfl (cL rfl rfl)))))) rfl) rfl) rfl) rfl) rfl) rfl) rfl))) rfl)) rfl) rfl) (cQ (cQ (cQ (cL rfl (cQ (cL rfl (cL rfl (cQ (cL (cL (cL (cL (cg rfl (cg rfl (cQ (cQ (cQ rfl rfl) rfl) rfl) (cL rfl (cL rfl (cL rfl (cL rfl (cL rfl rfl)))))) rfl) rfl) rfl) rfl) rfl) rfl))) rfl)) rfl) rfl) (cQ (cQ rfl rfl) rfl))))) rfl)) rfl)
theorem mR (v0 v1 v2 v3 : D) : Wi v0 v1 v2 v3 =
  cond ((sl (GN v0) 0).toInt = 1) (
 cond ((sl (GN v0) 1).toBool) (
 cond ((sl (UA (.int (len v2 : Int)) (.int 0) (.int 4) v0 v1 v2 v3) 0).toInt = 1) (
 cond ((sl (UA (.int (len v2 : Int)) (.int 0) (.int 4) v0 v1 v2 v3) 1).toInt < 0) (
 cond ((sl (Vp (.int (len v1 : Int)) (.int 1) (.int 24) v0 v1 v2 v3) 0).toInt = 1) (
 cond ((sl (Vp (.int (len v1 : Int)) (.int 1) (.int 24) v0 v1 v2 v3) 1).toInt < 0) (
 cond ((sl (V2 (.int (len v3 : Int)) (.int 0) (.int 80) v0 v1 v2 v3) 0).toInt = 1) (
 cond ((sl (V2 (.int (len v3 : Int)) (.int 0) (.int 80) v0 v1 v2 v3) 1).toInt < 0) (
 .row [.int 1, (.int 0), (.int 0)]) (
 .row [.int 1, (sl (V2 (.int (len v3 : Int)) (.int 0) (.int 80) v0 v1 v2 v3) 1), (.int 293)])) (
 .row [])) (
 .row [.int 1, (sl (Vp (.int (len v1 : Int)) (.int 1) (.int 24) v0 v1 v2 v3) 1), (.int 292)])) (
 .row [])) (
 .row [.int 1, (sl (UA (.int (len v2 : Int)) (.int 0) (.int 4) v0 v1 v2 v3) 1), (.int 291)])) (
 .row [])) (
 .row [.int 1, (.int 0), (.int 290)])) (
 .row []) := gw rfl rfl (cQ (cg rfl (cQ (cL (cQ (cL (cQ rfl rfl) rfl) rfl) rfl) rfl) rfl) rfl)
theorem gE (v0 : D) (v1 : Bool) (v2 : D) : DS v0 (.bool v1) v2 =
 SN v0 (.bool v1) (.int 0) v2 := gw rfl rfl rfl
theorem dp (v0 : D) (v1 : Bool) (v2 : Int) (v3 : D) : SN v0 (.bool v1) (.int v2) v3 =
  cond (v2 < len v0) (
 cond (v2 < 0) (
 .row []) (
 cond (D.strEq (cl v0 v2 0) v3) (
 .row [.int 1, (.int v2)]) (
 SN v0 (.bool v1) (.int (IntKind.wrap .i64 (v2 + 1))) v3))) (
 .row [.int 1, (.int (-1))]) := gw rfl rfl rfl
theorem jr (v0 : D) : CB v0 =
  cond (4 < (len v0 : Int)) (
 .row []) (
 Sf v0 (.int 0) Ar (.bool true)) := gw rfl rfl rfl
theorem YC (v0 : D) (v1 : Int) (v2 : D) (v3 : Bool) : Sf v0 (.int v1) v2 (.bool v3) =
  cond (v1 < len v0) (
 cond (v1 < 0) (
 .row []) (
 cond (eqC (cl v0 v1 0) 0 0) (
 .row []) (
 cond ((cl v0 v1 1).toInt < 1) (
 .row []) (
 cond (1000 < (cl v0 v1 1).toInt) (
 .row []) (
 cond ((sl (DS v2 (.bool v3) (cl v0 v1 0)) 0).toInt = 1) (
 cond ((sl (DS v2 (.bool v3) (cl v0 v1 0)) 1).toInt < 0) (
 cond ((len v2 : Int) < 1073741824) (
 Sf v0 (.int (IntKind.wrap .i64 (v1 + 1))) (ad v2 (.row [(cl v0 v1 0), (cl v0 v1 1), (.int 0)])) (.bool false)) (
 .row [])) (
 .row [])) (
 .row [])))))) (
 .row [.int 1, v2, (.bool v3)]) := gw rfl rfl (cL (cL rfl (cg rfl rfl (cL rfl (cL rfl (cQ (cL (cL rfl rfl) rfl) rfl))))) rfl)
theorem gU (v0 : D) : CM v0 =
  cond (v0.isNil) (
 .row [.int 1, Ar, (.bool true)]) (
 cond ((len v0 : Int) < 1048576) (
 .row [.int 1, (ct Ac v0), (.bool false)]) (
 .row [])) := gw rfl rfl (cg rfl rfl (cL rfl rfl))
theorem ig (v0 : D) : CH v0 =
  cond (v0.isNil) (
 .row [.int 1, Ar, (.bool true)]) (
 cond ((len v0 : Int) < 1048576) (
 .row [.int 1, (ct Ac v0), (.bool false)]) (
 .row [])) := gw rfl rfl (cg rfl rfl (cL rfl rfl))
theorem j3 (v0 : D) : CE v0 =
  cond (v0.isNil) (
 .row [.int 1, Ar, (.bool true)]) (
 cond ((len v0 : Int) < 1048576) (
 .row [.int 1, (ct Ac v0), (.bool false)]) (
 .row [])) := gw rfl rfl (cg rfl rfl (cL rfl rfl))
theorem kF (v0 : D) (v1 : Bool) (v2 : D) : D6 v0 (.bool v1) v2 =
 PG Ar (.bool true) v0 (.bool v1) (.int 0) v2 := gw rfl rfl rfl
theorem YR (v0 : D) (v1 : Bool) (v2 : D) (v3 : Bool) (v4 : Int) (v5 : D) : PG v0 (.bool v1) v2 (.bool v3) (.int v4) v5 =
  cond (v4 < len v2) (
 cond (v4 < 0) (
 .row []) (
 cond (D.strEq (cl v2 v4 0) v5) (
 cond ((len v0 : Int) < 1073741824) (
 PG (ad v0 (.row [(cl v2 v4 0), (cl v2 v4 1), (cl v2 v4 2)])) (.bool false) v2 (.bool v3) (.int (IntKind.wrap .i64 (v4 + 1))) v5) (
 .row [])) (
 PG v0 (.bool v1) v2 (.bool v3) (.int (IntKind.wrap .i64 (v4 + 1))) v5))) (
 .row [.int 1, v0, (.bool v1)]) := gw rfl rfl (cL (cL rfl (cg rfl (cL rfl rfl) rfl)) rfl)
theorem VM (v0 : Int) (v1 v2 v3 : D) (v4 : Bool) (v5 : Int) : Hg (.int v0) v1 v2 v3 (.bool v4) (.int v5) =
  cond (v5 < 0) (
 .row [.int 1, (.int 0), (.int 2)]) (
 cond (v5 < 256) (
 cond (v2.toBool) (
 .row [.int 1, (.int 0), (.int 9)]) (
 cond ((mIx [.int .i64] v1 (.row [(.int v5)])) < 0) (
 .row [.int 1, (.int 0), (.int 9)]) (
 .row [.int 1, (.int (IntKind.wrap .i64 ((cl v1 (mIx [.int .i64] v1 (.row [(.int v5)])) 1).toInt - v0))), (.int 0)]))) (
 .row [.int 1, (.int 0), (.int 2)])) := gw rfl rfl rfl
theorem YA (v0 : Int) (v1 v2 v3 : D) (v4 : Bool) (v5 : Int) : Iz (.int v0) v1 v2 v3 (.bool v4) (.int v5) =
  cond ((sl (Hg (.int v0) v1 v2 v3 (.bool v4) (.int v5)) 0).toInt = 1) (
 cond ((sl (Hg (.int v0) v1 v2 v3 (.bool v4) (.int v5)) 2).toInt = 0) (
 cond (v2.toBool) (
 .row [.int 1, (.int 0), v1]) (
 cond ((mIx [.int .i64] v1 (.row [(.int v5)])) < 0) (
 .row [.int 1, (.int 0), v1]) (
 .row [.int 1, (.int 0), (J9 v1 (mIx [.int .i64] v1 (.row [(.int v5)])))]))) (
 .row [.int 1, (sl (Hg (.int v0) v1 v2 v3 (.bool v4) (.int v5)) 2), v1])) (
 .row []) := gw rfl rfl (cQ (cQ rfl rfl) rfl)
theorem dk (v0 : Int) (v1 v2 v3 : D) (v4 : Bool) (v5 v6 : Int) : ET (.int v0) v1 v2 v3 (.bool v4) (.int v5) (.int v6) =
  cond ((len v3 : Int) < 1073741824) (
 J0 (.int (IntKind.wrap .i64 ((len (ad v3 (.row [(.int v5), (.int v6)])) : Int) - 1))) (.int v0) v2 (ad v3 (.row [(.int v5), (.int v6)])) (.bool false) v1) (
 .row []) := gw rfl rfl (cL rfl rfl)
theorem Zn (v0 v1 : Int) (v2 v3 : D) (v4 : Bool) (v5 : D) : J0 (.int v0) (.int v1) v2 v3 (.bool v4) v5 =
  cond (0 < v0) (
 cond ((ari .quo .i64 (IntKind.wrap .i64 (v0 - 1)) 2) < 0) (
 .row []) (
 cond ((ari .quo .i64 (IntKind.wrap .i64 (v0 - 1)) 2) < (len v3 : Int)) (
 cond (v0 < len v3) (
 cond ((cl v3 (ari .quo .i64 (IntKind.wrap .i64 (v0 - 1)) 2) 0).toInt < (cl v3 v0 0).toInt) (
 cond ((cl v3 (ari .quo .i64 (IntKind.wrap .i64 (v0 - 1)) 2) 1).toInt < (cl v3 v0 1).toInt) (
 .row [.int 1, v3, (.bool v4)]) (
 cond ((cl v3 v0 1).toInt < (cl v3 (ari .quo .i64 (IntKind.wrap .i64 (v0 - 1)) 2) 1).toInt) (
 .row [.int 1, v3, (.bool v4)]) (
 .row [.int 1, v3, (.bool v4)]))) (
 cond ((cl v3 v0 0).toInt < (cl v3 (ari .quo .i64 (IntKind.wrap .i64 (v0 - 1)) 2) 0).toInt) (
 cond ((cl v3 (ari .quo .i64 (IntKind.wrap .i64 (v0 - 1)) 2) 1).toInt < (cl v3 v0 1).toInt) (
 J0 (.int (ari .quo .i64 (IntKind.wrap .i64 (v0 - 1)) 2)) (.int v1) v2 (upd (upd (upd (upd v3 (ari .quo .i64 (IntKind.wrap .i64 (v0 - 1)) 2) 0 (cl v3 v0 0)) (ari .quo .i64 (IntKind.wrap .i64 (v0 - 1)) 2) 1 (cl v3 v0 1)) v0 0 (cl v3 (ari .quo .i64 (IntKind.wrap .i64 (v0 - 1)) 2) 0)) v0 1 (cl v3 (ari .quo .i64 (IntKind.wrap .i64 (v0 - 1)) 2) 1)) (.bool v4) v5) (
 cond ((cl v3 v0 1).toInt < (cl v3 (ari .quo .i64 (IntKind.wrap .i64 (v0 - 1)) 2) 1).toInt) (
 J0 (.int (ari .quo .i64 (IntKind.wrap .i64 (v0 - 1)) 2)) (.int v1) v2 (upd (upd (upd (upd v3 (ari .quo .i64 (IntKind.wrap .i64 (v0 - 1)) 2) 0 (cl v3 v0 0)) (ari .quo .i64 (IntKind.wrap .i64 (v0 - 1)) 2) 1 (cl v3 v0 1)) v0 0 (cl v3 (ari .quo .i64 (IntKind.wrap .i64 (v0 - 1)) 2) 0)) v0 1 (cl v3 (ari .quo .i64 (IntKind.wrap .i64 (v0 - 1)) 2) 1)) (.bool v4) v5) (
 J0 (.int (ari .quo .i64 (IntKind.wrap .i64 (v0 - 1)) 2)) (.int v1) v2 (upd (upd (upd (upd v3 (ari .quo .i64 (IntKind.wrap .i64 (v0 - 1)) 2) 0 (cl v3 v0 0)) (ari .quo .i64 (IntKind.wrap .i64 (v0 - 1)) 2) 1 (cl v3 v0 1)) v0 0 (cl v3 (ari .quo .i64 (IntKind.wrap .i64 (v0 - 1)) 2) 0)) v0 1 (cl v3 (ari .quo .i64 (IntKind.wrap .i64 (v0 - 1)) 2) 1)) (.bool v4) v5))) (
 cond ((cl v3 (ari .quo .i64 (IntKind.wrap .i64 (v0 - 1)) 2) 1).toInt < (cl v3 v0 1).toInt) (
 .row [.int 1, v3, (.bool v4)]) (
 cond ((cl v3 v0 1).toInt < (cl v3 (ari .quo .i64 (IntKind.wrap .i64 (v0 - 1)) 2) 1).toInt) (
 J0 (.int (ari .quo .i64 (IntKind.wrap .i64 (v0 - 1)) 2)) (.int v1) v2 (upd (upd (upd (upd v3 (ari .quo .i64 (IntKind.wrap .i64 (v0 - 1)) 2) 0 (cl v3 v0 0)) (ari .quo .i64 (IntKind.wrap .i64 (v0 - 1)) 2) 1 (cl v3 v0 1)) v0 0 (cl v3 (ari .quo .i64 (IntKind.wrap .i64 (v0 - 1)) 2) 0)) v0 1 (cl v3 (ari .quo .i64 (IntKind.wrap .i64 (v0 - 1)) 2) 1)) (.bool v4) v5) (
 .row [.int 1, v3, (.bool v4)]))))) (
 .row [])) (
 .row []))) (
 .row [.int 1, v3, (.bool v4)]) := gw rfl rfl rfl
theorem k7 (v0 : Int) (v1 v2 v3 : D) (v4 : Bool) (v5 v6 : Int) : Mi (.int v0) v1 v2 v3 (.bool v4) (.int v5) (.int v6) =
  cond (v5 < 0) (
 .row [.int 1, (.int 2), v2, v3, (.bool v4), v1]) (
 cond (v5 < 256) (
 cond (v6 < 0) (
 .row [.int 1, (.int 3), v2, v3, (.bool v4), v1]) (
 cond ((IntKind.wrap .i64 (1099511627776 - v0)) < v6) (
 .row [.int 1, (.int 3), v2, v3, (.bool v4), v1]) (
 cond (v2.toBool) (
 cond ((sl (ET (.int v0) (ad Ac (.row [(.int v5), (.int (IntKind.wrap .i64 (v0 + v6)))])) (.bool false) v3 (.bool v4) (.int (IntKind.wrap .i64 (v0 + v6))) (.int v5)) 0).toInt = 1) (
 .row [.int 1, (.int 0), (.bool false), (sl (ET (.int v0) (ad Ac (.row [(.int v5), (.int (IntKind.wrap .i64 (v0 + v6)))])) (.bool false) v3 (.bool v4) (.int (IntKind.wrap .i64 (v0 + v6))) (.int v5)) 1), (sl (ET (.int v0) (ad Ac (.row [(.int v5), (.int (IntKind.wrap .i64 (v0 + v6)))])) (.bool false) v3 (.bool v4) (.int (IntKind.wrap .i64 (v0 + v6))) (.int v5)) 2), (ad Ac (.row [(.int v5), (.int (IntKind.wrap .i64 (v0 + v6)))]))]) (
 .row [])) (
 cond ((mIx [.int .i64] v1 (.row [(.int v5)])) < 0) (
 cond ((sl (ET (.int v0) (ad v1 (.row [(.int v5), (.int (IntKind.wrap .i64 (v0 + v6)))])) v2 v3 (.bool v4) (.int (IntKind.wrap .i64 (v0 + v6))) (.int v5)) 0).toInt = 1) (
 .row [.int 1, (.int 0), v2, (sl (ET (.int v0) (ad v1 (.row [(.int v5), (.int (IntKind.wrap .i64 (v0 + v6)))])) v2 v3 (.bool v4) (.int (IntKind.wrap .i64 (v0 + v6))) (.int v5)) 1), (sl (ET (.int v0) (ad v1 (.row [(.int v5), (.int (IntKind.wrap .i64 (v0 + v6)))])) v2 v3 (.bool v4) (.int (IntKind.wrap .i64 (v0 + v6))) (.int v5)) 2), (ad v1 (.row [(.int v5), (.int (IntKind.wrap .i64 (v0 + v6)))]))]) (
 .row [])) (
 cond ((sl (ET (.int v0) (upd v1 (mIx [.int .i64] v1 (.row [(.int v5)])) 1 (.int (IntKind.wrap .i64 (v0 + v6)))) v2 v3 (.bool v4) (.int (IntKind.wrap .i64 (v0 + v6))) (.int v5)) 0).toInt = 1) (
 .row [.int 1, (.int 0), v2, (sl (ET (.int v0) (upd v1 (mIx [.int .i64] v1 (.row [(.int v5)])) 1 (.int (IntKind.wrap .i64 (v0 + v6)))) v2 v3 (.bool v4) (.int (IntKind.wrap .i64 (v0 + v6))) (.int v5)) 1), (sl (ET (.int v0) (upd v1 (mIx [.int .i64] v1 (.row [(.int v5)])) 1 (.int (IntKind.wrap .i64 (v0 + v6)))) v2 v3 (.bool v4) (.int (IntKind.wrap .i64 (v0 + v6))) (.int v5)) 2), (upd v1 (mIx [.int .i64] v1 (.row [(.int v5)])) 1 (.int (IntKind.wrap .i64 (v0 + v6))))]) (
 .row [])))))) (
 .row [.int 1, (.int 2), v2, v3, (.bool v4), v1])) := gw rfl rfl (cL rfl (cL (cL rfl (cL rfl (cg rfl (cQ rfl rfl) (cL (cQ rfl rfl) (cQ rfl rfl))))) rfl))
theorem Ze (v0 : D) (v1 : Bool) (v2 v3 : D) (v4 : Bool) (v5 : D) (v6 : Bool) (v7 : D) (v8 : Bool) (v9 : D) (v10 : Bool) (v11 v12 : Int) (v13 v14 v15 : D) (v16 v17 : Bool) (v18 : D) (v19 : Bool) (v20 : D) : De v0 (.bool v1) v2 v3 (.bool v4) v5 (.bool v6) v7 (.bool v8) v9 (.bool v10) (.int v11) (.int v12) v13 v14 v15 (.bool v16) (.bool v17) v18 (.bool v19) v20 =
  cond ((sl (D6 v3 (.bool v4) v20) 0).toInt = 1) (
 cond (0 < (len (sl (D6 v3 (.bool v4) v20) 1) : Int)) (
 cond ((sl (Iz (.int v12) v13 v14 v15 (.bool v16) (.int 0)) 0).toInt = 1) (
 cond (0 < (cl (sl (D6 v3 (.bool v4) v20) 1) 0 2).toInt) (
 cond ((sl (Mi (.int v12) (sl (Iz (.int v12) v13 v14 v15 (.bool v16) (.int 0)) 2) v14 v15 (.bool v16) (.int 0) (cl (sl (D6 v3 (.bool v4) v20) 1) 0 2)) 0).toInt = 1) (
 .row [.int 1, (cl (sl (D6 v3 (.bool v4) v20) 1) 0 0), (cl (sl (D6 v3 (.bool v4) v20) 1) 0 1), (cl (sl (D6 v3 (.bool v4) v20) 1) 0 2), (sl (Mi (.int v12) (sl (Iz (.int v12) v13 v14 v15 (.bool v16) (.int 0)) 2) v14 v15 (.bool v16) (.int 0) (cl (sl (D6 v3 (.bool v4) v20) 1) 0 2)) 2), (sl (Mi (.int v12) (sl (Iz (.int v12) v13 v14 v15 (.bool v16) (.int 0)) 2) v14 v15 (.bool v16) (.int 0) (cl (sl (D6 v3 (.bool v4) v20) 1) 0 2)) 3), (sl (Mi (.int v12) (sl (Iz (.int v12) v13 v14 v15 (.bool v16) (.int 0)) 2) v14 v15 (.bool v16) (.int 0) (cl (sl (D6 v3 (.bool v4) v20) 1) 0 2)) 4), (sl (Mi (.int v12) (sl (Iz (.int v12) v13 v14 v15 (.bool v16) (.int 0)) 2) v14 v15 (.bool v16) (.int 0) (cl (sl (D6 v3 (.bool v4) v20) 1) 0 2)) 5)]) (
 .row [])) (
 .row [.int 1, (cl (sl (D6 v3 (.bool v4) v20) 1) 0 0), (cl (sl (D6 v3 (.bool v4) v20) 1) 0 1), (cl (sl (D6 v3 (.bool v4) v20) 1) 0 2), v14, v15, (.bool v16), (sl (Iz (.int v12) v13 v14 v15 (.bool v16) (.int 0)) 2)])) (
 .row [])) (
 .row [])) (
 .row []) := gw rfl rfl (cQ (cL (cQ (cL (cQ rfl rfl) rfl) rfl) rfl) rfl)
theorem YW (v0 v1 v2 v3 : D) : SP v0 v1 v2 v3 =
  cond ((sl (Wi v0 v1 v2 v3) 0).toInt = 1) (
 cond ((sl (Wi v0 v1 v2 v3) 2).toInt = 0) (
 cond ((sl (CB v2) 0).toInt = 1) (
 cond ((sl (CM v1) 0).toInt = 1) (
 cond ((sl (CH v2) 0).toInt = 1) (
 cond ((sl (CE v3) 0).toInt = 1) (
 cond (0 < (len v1 : Int)) (
 cond ((sl (De (sl (CB v2) 1) (sl (CB v2) 2) v0 (sl (CM v1) 1) (sl (CM v1) 2) (sl (CH v2) 1) (sl (CH v2) 2) (sl (CE v3) 1) (sl (CE v3) 2) (CG 0 0) (.bool false) (.int 0) (.int 0) Ac (.bool true) Ar (.bool true) (.bool false) Ar (.bool true) (cl v1 0 0)) 0).toInt = 1) (
 .row [.int 1, v0, (sl (CM v1) 1), (sl (CM v1) 2), (sl (CH v2) 1), (sl (CH v2) 2), (sl (CE v3) 1), (sl (CE v3) 2), (sl (De (sl (CB v2) 1) (sl (CB v2) 2) v0 (sl (CM v1) 1) (sl (CM v1) 2) (sl (CH v2) 1) (sl (CH v2) 2) (sl (CE v3) 1) (sl (CE v3) 2) (CG 0 0) (.bool false) (.int 0) (.int 0) Ac (.bool true) Ar (.bool true) (.bool false) Ar (.bool true) (cl v1 0 0)) 1), (sl (De (sl (CB v2) 1) (sl (CB v2) 2) v0 (sl (CM v1) 1) (sl (CM v1) 2) (sl (CH v2) 1) (sl (CH v2) 2) (sl (CE v3) 1) (sl (CE v3) 2) (CG 0 0) (.bool false) (.int 0) (.int 0) Ac (.bool true) Ar (.bool true) (.bool false) Ar (.bool true) (cl v1 0 0)) 2), (sl (De (sl (CB v2) 1) (sl (CB v2) 2) v0 (sl (CM v1) 1) (sl (CM v1) 2) (sl (CH v2) 1) (sl (CH v2) 2) (sl (CE v3) 1) (sl (CE v3) 2) (CG 0 0) (.bool false) (.int 0) (.int 0) Ac (.bool true) Ar (.bool true) (.bool false) Ar (.bool true) (cl v1 0 0)) 3), Ar, (sl (CB v2) 1), (sl (CB v2) 2), (sl (De (sl (CB v2) 1) (sl (CB v2) 2) v0 (sl (CM v1) 1) (sl (CM v1) 2) (sl (CH v2) 1) (sl (CH v2) 2) (sl (CE v3) 1) (sl (CE v3) 2) (CG 0 0) (.bool false) (.int 0) (.int 0) Ac (.bool true) Ar (.bool true) (.bool false) Ar (.bool true) (cl v1 0 0)) 4), (sl (De (sl (CB v2) 1) (sl (CB v2) 2) v0 (sl (CM v1) 1) (sl (CM v1) 2) (sl (CH v2) 1) (sl (CH v2) 2) (sl (CE v3) 1) (sl (CE v3) 2) (CG 0 0) (.bool false) (.int 0) (.int 0) Ac (.bool true) Ar (.bool true) (.bool false) Ar (.bool true) (cl v1 0 0)) 5), (sl (De (sl (CB v2) 1) (sl (CB v2) 2) v0 (sl (CM v1) 1) (sl (CM v1) 2) (sl (CH v2) 1) (sl (CH v2) 2) (sl (CE v3) 1) (sl (CE v3) 2) (CG 0 0) (.bool false) (.int 0) (.int 0) Ac (.bool true) Ar (.bool true) (.bool false) Ar (.bool true) (cl v1 0 0)) 6), (sl (De (sl (CB v2) 1) (sl (CB v2) 2) v0 (sl (CM v1) 1) (sl (CM v1) 2) (sl (CH v2) 1) (sl (CH v2) 2) (sl (CE v3) 1) (sl (CE v3) 2) (CG 0 0) (.bool false) (.int 0) (.int 0) Ac (.bool true) Ar (.bool true) (.bool false) Ar (.bool true) (cl v1 0 0)) 7)]) (
 .row [])) (
 .row [])) (
 .row [])) (
 .row [])) (
 .row [])) (
 .row [])) (
 .row [.int 2, (sl (Wi v0 v1 v2 v3) 2)])) (
 .row []) := gw rfl rfl (cQ (cQ (cQ (cQ (cQ (cQ (cL (cQ rfl rfl) rfl) rfl) rfl) rfl) rfl) rfl) rfl)
theorem lM (v0 v1 v2 : D) (v3 : Bool) : RW v0 v1 v2 (.bool v3) =
 SC v0 (.int 0) v1 v2 (.bool v3) := gw rfl rfl rfl
theorem l7 (v0 : D) (v1 : Int) (v2 v3 : D) (v4 : Bool) : SC v0 (.int v1) v2 v3 (.bool v4) =
  cond (v1 < len v0) (
 cond (v1 < 0) (
 .row []) (
 cond (D.strEq (cl v0 v1 0) v2) (
 .row [.int 1, (.int v1)]) (
 SC v0 (.int (IntKind.wrap .i64 (v1 + 1))) v2 v3 (.bool v4)))) (
 .row [.int 1, (.int (-1))]) := gw rfl rfl rfl
theorem lX (v0 v1 v2 : D) (v3 : Bool) : Ny v0 v1 v2 (.bool v3) =
  cond ((sl (RW v0 v1 v2 (.bool v3)) 0).toInt = 1) (
 .row [.int 1, (.bool (!decide ((sl (RW v0 v1 v2 (.bool v3)) 1).toInt < 0)))]) (
 .row []) := gw rfl rfl (cQ rfl rfl)
theorem Yv (v0 : D) (v1 : Bool) (v2 : D) (v3 : Bool) : St v0 (.bool v1) v2 (.bool v3) =
  cond ((len v2 : Int) = (len v0 : Int)) (
 PU v2 (.bool v3) (.int 0) v0 (.bool v1)) (
 .row [.int 1, (.int 2), v0]) := gw rfl rfl (cQ rfl rfl)
theorem Yo (v0 : D) (v1 : Bool) (v2 : Int) (v3 : D) (v4 : Bool) : PU v0 (.bool v1) (.int v2) v3 (.bool v4) =
  cond (v2 < len v0) (
 cond (v2 < 0) (
 .row []) (
 cond ((cl v0 v2 0).toInt < 0) (
 .row [.int 1, (.int 3), v3]) (
 cond (v2 < len v3) (
 cond ((cl v3 v2 1).toInt < (cl v0 v2 0).toInt) (
 .row [.int 1, (.int 3), v3]) (
 PU v0 (.bool v1) (.int (IntKind.wrap .i64 (v2 + 1))) v3 (.bool v4))) (
 .row [])))) (
 Ps v0 (.bool v1) (.int (len v0 : Int)) (.int 0) v3 (.bool v4)) := gw rfl rfl rfl
theorem YV (v0 : D) (v1 : Bool) (v2 v3 : Int) (v4 : D) (v5 : Bool) : Ps v0 (.bool v1) (.int v2) (.int v3) v4 (.bool v5) =
  cond (v3 < v2) (
 cond (v3 < 0) (
 .row []) (
 cond (v3 < len v0) (
 cond (v3 < len v4) (
 Ps v0 (.bool v1) (.int v2) (.int (IntKind.wrap .i64 (v3 + 1))) (upd v4 v3 2 (cl v0 v3 0)) (.bool v5)) (
 .row [])) (
 .row []))) (
 .row [.int 1, (.int 0), v4]) := gw rfl rfl rfl
theorem ci (v0 : Int) (v1 v2 v3 : D) (v4 : Bool) : GI (.int v0) v1 v2 v3 (.bool v4) =
  cond ((IntKind.wrap .i64 ((len v3 : Int) - 1)) < 0) (
 .row []) (
 cond ((IntKind.wrap .i64 ((len v3 : Int) - 1)) < (len v3 : Int)) (
 cond (0 < (len v3 : Int)) (
 cond ((len (upd (upd v3 0 0 (cl v3 (IntKind.wrap .i64 ((len v3 : Int) - 1)) 0)) 0 1 (cl v3 (IntKind.wrap .i64 ((len v3 : Int) - 1)) 1)) : Int) < (IntKind.wrap .i64 ((len v3 : Int) - 1))) (
 .row []) (
 SH (.int (IntKind.wrap .i64 ((len v3 : Int) - 1))) (.int 0) (.int v0) v2 (sb (upd (upd v3 0 0 (cl v3 (IntKind.wrap .i64 ((len v3 : Int) - 1)) 0)) 0 1 (cl v3 (IntKind.wrap .i64 ((len v3 : Int) - 1)) 1)) 0 (IntKind.wrap .i64 ((len v3 : Int) - 1))) (.bool v4) v1)) (
 .row [])) (
 .row [])) := gw rfl rfl rfl
theorem YK (v0 v1 v2 : Int) (v3 v4 : D) (v5 : Bool) (v6 : D) : SH (.int v0) (.int v1) (.int v2) v3 v4 (.bool v5) v6 =
 BG (.int v0) (.int v1) (.int v1) (.int 0) (.int v2) v3 v4 (.bool v5) v6 (.int (IntKind.wrap .i64 ((IntKind.wrap .i64 (2 * v1)) + 1))) (.int (IntKind.wrap .i64 ((IntKind.wrap .i64 (2 * v1)) + 2))) := gw rfl rfl rfl
theorem Sp (v0 v1 v2 v3 v4 : Int) (v5 v6 : D) (v7 : Bool) (v8 : D) (v9 v10 : Int) : BG (.int v0) (.int v1) (.int v2) (.int v3) (.int v4) v5 v6 (.bool v7) v8 (.int v9) (.int v10) =
  cond (v3 < 2) (
 cond (v3 = 0) (
 cond (v9 < v0) (
 cond (v9 < 0) (
 .row []) (
 cond (v9 < len v6) (
 cond (v2 < 0) (
 .row []) (
 cond (v2 < len v6) (
 cond ((cl v6 v9 0).toInt < (cl v6 v2 0).toInt) (
 cond ((cl v6 v9 1).toInt < (cl v6 v2 1).toInt) (
 BG (.int v0) (.int v1) (.int v9) (.int (IntKind.wrap .i64 (v3 + 1))) (.int v4) v5 v6 (.bool v7) v8 (.int v9) (.int v10)) (
 cond ((cl v6 v2 1).toInt < (cl v6 v9 1).toInt) (
 BG (.int v0) (.int v1) (.int v9) (.int (IntKind.wrap .i64 (v3 + 1))) (.int v4) v5 v6 (.bool v7) v8 (.int v9) (.int v10)) (
 BG (.int v0) (.int v1) (.int v9) (.int (IntKind.wrap .i64 (v3 + 1))) (.int v4) v5 v6 (.bool v7) v8 (.int v9) (.int v10)))) (
 cond ((cl v6 v2 0).toInt < (cl v6 v9 0).toInt) (
 cond ((cl v6 v9 1).toInt < (cl v6 v2 1).toInt) (
 BG (.int v0) (.int v1) (.int v2) (.int (IntKind.wrap .i64 (v3 + 1))) (.int v4) v5 v6 (.bool v7) v8 (.int v9) (.int v10)) (
 cond ((cl v6 v2 1).toInt < (cl v6 v9 1).toInt) (
 BG (.int v0) (.int v1) (.int v2) (.int (IntKind.wrap .i64 (v3 + 1))) (.int v4) v5 v6 (.bool v7) v8 (.int v9) (.int v10)) (
 BG (.int v0) (.int v1) (.int v2) (.int (IntKind.wrap .i64 (v3 + 1))) (.int v4) v5 v6 (.bool v7) v8 (.int v9) (.int v10)))) (
 cond ((cl v6 v9 1).toInt < (cl v6 v2 1).toInt) (
 BG (.int v0) (.int v1) (.int v9) (.int (IntKind.wrap .i64 (v3 + 1))) (.int v4) v5 v6 (.bool v7) v8 (.int v9) (.int v10)) (
 cond ((cl v6 v2 1).toInt < (cl v6 v9 1).toInt) (
 BG (.int v0) (.int v1) (.int v2) (.int (IntKind.wrap .i64 (v3 + 1))) (.int v4) v5 v6 (.bool v7) v8 (.int v9) (.int v10)) (
 BG (.int v0) (.int v1) (.int v2) (.int (IntKind.wrap .i64 (v3 + 1))) (.int v4) v5 v6 (.bool v7) v8 (.int v9) (.int v10)))))) (
 .row []))) (
 .row []))) (
 BG (.int v0) (.int v1) (.int v2) (.int (IntKind.wrap .i64 (v3 + 1))) (.int v4) v5 v6 (.bool v7) v8 (.int v9) (.int v10))) (
 cond (v3 = 1) (
 cond (v10 < v0) (
 cond (v10 < 0) (
 .row []) (
 cond (v10 < len v6) (
 cond (v2 < 0) (
 .row []) (
 cond (v2 < len v6) (
 cond ((cl v6 v10 0).toInt < (cl v6 v2 0).toInt) (
 cond ((cl v6 v10 1).toInt < (cl v6 v2 1).toInt) (
 BG (.int v0) (.int v1) (.int v10) (.int (IntKind.wrap .i64 (v3 + 1))) (.int v4) v5 v6 (.bool v7) v8 (.int v9) (.int v10)) (
 cond ((cl v6 v2 1).toInt < (cl v6 v10 1).toInt) (
 BG (.int v0) (.int v1) (.int v10) (.int (IntKind.wrap .i64 (v3 + 1))) (.int v4) v5 v6 (.bool v7) v8 (.int v9) (.int v10)) (
 BG (.int v0) (.int v1) (.int v10) (.int (IntKind.wrap .i64 (v3 + 1))) (.int v4) v5 v6 (.bool v7) v8 (.int v9) (.int v10)))) (
 cond ((cl v6 v2 0).toInt < (cl v6 v10 0).toInt) (
 cond ((cl v6 v10 1).toInt < (cl v6 v2 1).toInt) (
 BG (.int v0) (.int v1) (.int v2) (.int (IntKind.wrap .i64 (v3 + 1))) (.int v4) v5 v6 (.bool v7) v8 (.int v9) (.int v10)) (
 cond ((cl v6 v2 1).toInt < (cl v6 v10 1).toInt) (
 BG (.int v0) (.int v1) (.int v2) (.int (IntKind.wrap .i64 (v3 + 1))) (.int v4) v5 v6 (.bool v7) v8 (.int v9) (.int v10)) (
 BG (.int v0) (.int v1) (.int v2) (.int (IntKind.wrap .i64 (v3 + 1))) (.int v4) v5 v6 (.bool v7) v8 (.int v9) (.int v10)))) (
 cond ((cl v6 v10 1).toInt < (cl v6 v2 1).toInt) (
 BG (.int v0) (.int v1) (.int v10) (.int (IntKind.wrap .i64 (v3 + 1))) (.int v4) v5 v6 (.bool v7) v8 (.int v9) (.int v10)) (
 cond ((cl v6 v2 1).toInt < (cl v6 v10 1).toInt) (
 BG (.int v0) (.int v1) (.int v2) (.int (IntKind.wrap .i64 (v3 + 1))) (.int v4) v5 v6 (.bool v7) v8 (.int v9) (.int v10)) (
 BG (.int v0) (.int v1) (.int v2) (.int (IntKind.wrap .i64 (v3 + 1))) (.int v4) v5 v6 (.bool v7) v8 (.int v9) (.int v10)))))) (
 .row []))) (
 .row []))) (
 BG (.int v0) (.int v1) (.int v2) (.int (IntKind.wrap .i64 (v3 + 1))) (.int v4) v5 v6 (.bool v7) v8 (.int v9) (.int v10))) (
 .row []))) (
 cond (v2 = v1) (
 .row [.int 1, v6, (.bool v7)]) (
 cond (v2 < 0) (
 .row []) (
 cond (v2 < len v6) (
 cond (v1 < 0) (
 .row []) (
 cond (v1 < len v6) (
 SH (.int v0) (.int v2) (.int v4) v5 (upd (upd (upd (upd v6 v1 0 (cl v6 v2 0)) v1 1 (cl v6 v2 1)) v2 0 (cl v6 v1 0)) v2 1 (cl v6 v1 1)) (.bool v7) v8) (
 .row []))) (
 .row [])))) := gw rfl rfl (cL (cQ rfl (cQ rfl rfl)) (cQ rfl rfl))
theorem S5 (v0 : Int) (v1 v2 v3 : D) (v4 : Bool) : By (.int v0) v1 v2 v3 (.bool v4) =
 J4 (.int v0) v2 v3 (.bool v4) v1 := gw rfl rfl rfl
theorem Va (v0 : Int) (v1 v2 : D) (v3 : Bool) (v4 : D) : J4 (.int v0) v1 v2 (.bool v3) v4 =
  cond (0 < (len v2 : Int)) (
 cond (v1.toBool) (
 cond ((sl (GI (.int v0) v4 v1 v2 (.bool v3)) 0).toInt = 1) (
 J4 (.int v0) v1 (sl (GI (.int v0) v4 v1 v2 (.bool v3)) 1) (sl (GI (.int v0) v4 v1 v2 (.bool v3)) 2) v4) (
 .row [])) (
 cond ((mIx [.int .i64] v4 (.row [(cl v2 0 1)])) < 0) (
 cond ((sl (GI (.int v0) v4 v1 v2 (.bool v3)) 0).toInt = 1) (
 J4 (.int v0) v1 (sl (GI (.int v0) v4 v1 v2 (.bool v3)) 1) (sl (GI (.int v0) v4 v1 v2 (.bool v3)) 2) v4) (
 .row [])) (
 cond ((cl v4 (mIx [.int .i64] v4 (.row [(cl v2 0 1)])) 1).toInt = (cl v2 0 0).toInt) (
 .row [.int 1, (cl v2 0 0), (cl v2 0 1), (.bool true), v2, (.bool v3)]) (
 cond ((sl (GI (.int v0) v4 v1 v2 (.bool v3)) 0).toInt = 1) (
 J4 (.int v0) v1 (sl (GI (.int v0) v4 v1 v2 (.bool v3)) 1) (sl (GI (.int v0) v4 v1 v2 (.bool v3)) 2) v4) (
 .row []))))) (
 .row [.int 1, (.int 0), (.int 0), (.bool false), v2, (.bool v3)]) := gw rfl rfl (cL (cg rfl (cQ rfl rfl) (cL (cQ rfl rfl) (cQ rfl (cQ rfl rfl)))) rfl)
theorem bO (v0 : Int) (v1 v2 v3 : D) (v4 : Bool) (v5 : Int) : JY (.int v0) v1 v2 v3 (.bool v4) (.int v5) =
  cond (1099511627776 < v5) (
 .row [.int 1, Ar, (.bool true), (.int 3), (.int v0), v3, (.bool v4), v1]) (
 cond (v0 < v5) (
 cond ((sl (By (.int v5) v1 v2 v3 (.bool v4)) 0).toInt = 1) (
 LV Ar (.bool true) (sl (By (.int v5) v1 v2 v3 (.bool v4)) 3) (.int v5) v2 (sl (By (.int v5) v1 v2 v3 (.bool v4)) 4) (sl (By (.int v5) v1 v2 v3 (.bool v4)) 5) v1 (sl (By (.int v5) v1 v2 v3 (.bool v4)) 1) (sl (By (.int v5) v1 v2 v3 (.bool v4)) 2)) (
 .row [])) (
 cond ((sl (By (.int v0) v1 v2 v3 (.bool v4)) 0).toInt = 1) (
 LV Ar (.bool true) (sl (By (.int v0) v1 v2 v3 (.bool v4)) 3) (.int v0) v2 (sl (By (.int v0) v1 v2 v3 (.bool v4)) 4) (sl (By (.int v0) v1 v2 v3 (.bool v4)) 5) v1 (sl (By (.int v0) v1 v2 v3 (.bool v4)) 1) (sl (By (.int v0) v1 v2 v3 (.bool v4)) 2)) (
 .row []))) := gw rfl rfl (cL rfl (cL (cQ rfl rfl) (cQ rfl rfl)))
theorem Sw (v0 : D) (v1 v2 : Bool) (v3 : Int) (v4 v5 : D) (v6 : Bool) (v7 : D) (v8 v9 : Int) : LV v0 (.bool v1) (.bool v2) (.int v3) v4 v5 (.bool v6) v7 (.int v8) (.int v9) =
  cond (v2) (
 cond (v3 < v8) (
 .row [.int 1, v0, (.bool v1), (.int 0), (.int v3), v5, (.bool v6), v7]) (
 cond ((len v0 : Int) < 1073741824) (
 cond (v4.toBool) (
 cond ((sl (By (.int v3) v7 v4 v5 (.bool v6)) 0).toInt = 1) (
 LV (ad v0 (.row [(.int v9)])) (.bool false) (sl (By (.int v3) v7 v4 v5 (.bool v6)) 3) (.int v3) v4 (sl (By (.int v3) v7 v4 v5 (.bool v6)) 4) (sl (By (.int v3) v7 v4 v5 (.bool v6)) 5) v7 (sl (By (.int v3) v7 v4 v5 (.bool v6)) 1) (sl (By (.int v3) v7 v4 v5 (.bool v6)) 2)) (
 .row [])) (
 cond ((mIx [.int .i64] v7 (.row [(.int v9)])) < 0) (
 cond ((sl (By (.int v3) v7 v4 v5 (.bool v6)) 0).toInt = 1) (
 LV (ad v0 (.row [(.int v9)])) (.bool false) (sl (By (.int v3) v7 v4 v5 (.bool v6)) 3) (.int v3) v4 (sl (By (.int v3) v7 v4 v5 (.bool v6)) 4) (sl (By (.int v3) v7 v4 v5 (.bool v6)) 5) v7 (sl (By (.int v3) v7 v4 v5 (.bool v6)) 1) (sl (By (.int v3) v7 v4 v5 (.bool v6)) 2)) (
 .row [])) (
 cond ((sl (By (.int v3) (J9 v7 (mIx [.int .i64] v7 (.row [(.int v9)]))) v4 v5 (.bool v6)) 0).toInt = 1) (
 LV (ad v0 (.row [(.int v9)])) (.bool false) (sl (By (.int v3) (J9 v7 (mIx [.int .i64] v7 (.row [(.int v9)]))) v4 v5 (.bool v6)) 3) (.int v3) v4 (sl (By (.int v3) (J9 v7 (mIx [.int .i64] v7 (.row [(.int v9)]))) v4 v5 (.bool v6)) 4) (sl (By (.int v3) (J9 v7 (mIx [.int .i64] v7 (.row [(.int v9)]))) v4 v5 (.bool v6)) 5) (J9 v7 (mIx [.int .i64] v7 (.row [(.int v9)]))) (sl (By (.int v3) (J9 v7 (mIx [.int .i64] v7 (.row [(.int v9)]))) v4 v5 (.bool v6)) 1) (sl (By (.int v3) (J9 v7 (mIx [.int .i64] v7 (.row [(.int v9)]))) v4 v5 (.bool v6)) 2)) (
 .row [])))) (
 .row []))) (
 .row [.int 1, v0, (.bool v1), (.int 0), (.int v3), v5, (.bool v6), v7]) := gw rfl rfl (cg rfl (cL rfl (cL (cg rfl (cQ rfl rfl) (cL (cQ rfl rfl) (cQ rfl rfl))) rfl)) rfl)
theorem YY (v0 v1 v2 v3 v4 v5 : D) (v6 : Bool) (v7 : Int) {F0 F1 F2 F3 : D} (h0 : SP v0 v1 v2 v3 = F0) (h1 : JY (.int 0) (sl F0 17) (sl F0 14) (sl F0 15) (sl F0 16) (.int v7) = F1) (h2 : St (sl F0 12) (sl F0 13) v5 (.bool v6) = F2) (h3 : De (sl F2 2) (sl F0 13) (sl F0 1) (sl F0 2) (sl F0 3) (sl F0 4) (sl F0 5) (sl F0 6) (sl F0 7) (sl F0 8) (sl F0 9) (sl F0 10) (sl F1 4) (sl F1 7) (sl F0 14) (sl F1 5) (sl F1 6) (.bool false) (sl F0 11) (.bool true) v4 = F3) : Ap v0 v1 v2 v3 v4 v5 (.bool v6) (.int v7) =
  cond ((sl F0 0).toInt = 1) (
 cond ((sl (Ny v1 v4 v5 (.bool v6)) 0).toInt = 1) (
 cond ((sl (Ny v1 v4 v5 (.bool v6)) 1).toBool) (
 cond ((sl F2 0).toInt = 1) (
 cond ((sl F2 1).toInt = 0) (
 cond (v7 < 0) (
 .row [.int 1]) (
 cond (1099511627776 < v7) (
 .row [.int 1]) (
 cond ((sl F1 0).toInt = 1) (
 cond ((len (sl F2 2) : Int) = (len (sl F0 12) : Int)) (
 cond ((sl F3 0).toInt = 1) (
 .row [.int 2, (sl F0 1), (sl F0 2), (sl F0 3), (sl F0 4), (sl F0 5), (sl F0 6), (sl F0 7), (sl F3 1), (sl F3 2), (sl F3 3), (sl F0 11), (sl F2 2), (sl F0 13), (sl F1 4), (sl F3 4), (sl F3 5), (sl F3 6), (sl F3 7)]) (
 .row [])) (
 .row [])) (
 .row [])))) (
 .row [.int 1])) (
 .row [])) (
 .row [.int 1])) (
 .row [])) (
 cond ((sl F0 0).toInt = 2) (
 cond ((sl (Ny v1 v4 v5 (.bool v6)) 0).toInt = 1) (
 cond ((sl F0 1).toInt = 0) (
 cond ((sl (Ny v1 v4 v5 (.bool v6)) 1).toBool) (
 .row []) (
 .row [.int 1])) (
 .row [.int 1])) (
 .row [])) (
 .row [])) := by
  subst h0; subst h1; subst h2; subst h3; exact gw rfl rfl (cQ (cQ (cg rfl (cQ (cQ (cL rfl (cL rfl (cQ (cQ (cQ rfl rfl) rfl) rfl))) rfl) rfl) rfl) rfl) (cQ (cQ (cQ rfl rfl) rfl) rfl))
theorem YT (v0 : D) : Do v0 =
  cond ((A5 v0 : Int) < 1) (
 .row [.int 1, (.bool false)]) (
 cond (32 < (A5 v0 : Int)) (
 .row [.int 1, (.bool false)]) (
 cond ((sAt v0 0) = 95) (
 .row [.int 1, (.bool false)]) (
 cond ((sAt v0 0) < 48) (
 JF v0 (.int 0)) (
 cond (57 < (sAt v0 0)) (
 JF v0 (.int 0)) (
 .row [.int 1, (.bool false)]))))) := gw rfl rfl (cL rfl (cL rfl (cQ rfl rfl)))
theorem U0 (v0 : D) (v1 : Int) : JF v0 (.int v1) =
  cond (v1 < (A5 v0 : Int)) (
 cond (v1 < 0) (
 .row []) (
 cond ((sAt v0 v1) < 97) (
 cond ((sAt v0 v1) < 65) (
 cond ((sAt v0 v1) < 48) (
 .row [.int 1, (.bool false)]) (
 cond (57 < (sAt v0 v1)) (
 .row [.int 1, (.bool false)]) (
 JF v0 (.int (IntKind.wrap .i64 (v1 + 1)))))) (
 cond (90 < (sAt v0 v1)) (
 cond ((sAt v0 v1) = 95) (
 JF v0 (.int (IntKind.wrap .i64 (v1 + 1)))) (
 .row [.int 1, (.bool false)])) (
 JF v0 (.int (IntKind.wrap .i64 (v1 + 1)))))) (
 cond (122 < (sAt v0 v1)) (
 .row [.int 1, (.bool false)]) (
 JF v0 (.int (IntKind.wrap .i64 (v1 + 1))))))) (
 .row [.int 1, (.bool true)]) := gw rfl rfl (cL (cL rfl (cL (cL rfl (cL (cQ rfl rfl) rfl)) rfl)) rfl)
theorem dh (v0 v1 v2 v3 v4 : D) : Ip v0 v1 v2 v3 v4 =
 R1 v4 (.int 0) v0 v1 v2 v3 := gw rfl rfl rfl
theorem kM (v0 : D) (v1 : Int) (v2 v3 v4 v5 : D) : R1 v0 (.int v1) v2 v3 v4 v5 =
  cond (v1 < len v4) (
 cond (v1 < 0) (
 .row []) (
 cond (D.strEq (cl v4 v1 0) v0) (
 .row [.int 1, (.int v1)]) (
 R1 v0 (.int (IntKind.wrap .i64 (v1 + 1))) v2 v3 v4 v5))) (
 .row [.int 1, (.int (-1))]) := gw rfl rfl rfl
theorem eJ (v0 v1 v2 v3 v4 : D) : Hm v0 v1 v2 v3 v4 =
 RU v4 (.int 0) v0 v1 v2 v3 := gw rfl rfl rfl
theorem kI (v0 : D) (v1 : Int) (v2 v3 v4 v5 : D) : RU v0 (.int v1) v2 v3 v4 v5 =
  cond (v1 < len v3) (
 cond (v1 < 0) (
 .row []) (
 cond (D.strEq (cl v3 v1 0) v0) (
 .row [.int 1, (.int v1)]) (
 RU v0 (.int (IntKind.wrap .i64 (v1 + 1))) v2 v3 v4 v5))) (
 .row [.int 1, (.int (-1))]) := gw rfl rfl rfl
theorem fO (v0 v1 v2 v3 : D) (v4 : Int) : SG v0 v1 v2 v3 (.int v4) =
  cond (v4 < 0) (
 .row []) (
 cond (v4 < len v3) (
 cond ((sl (Hm v0 v1 v2 v3 (cl v3 v4 0)) 0).toInt = 1) (
 cond ((sl (Hm v0 v1 v2 v3 (cl v3 v4 0)) 1).toInt < 0) (
 .row [.int 1, (.bool false)]) (
 cond ((sl (Hm v0 v1 v2 v3 (cl v3 v4 1)) 0).toInt = 1) (
 cond ((sl (Hm v0 v1 v2 v3 (cl v3 v4 1)) 1).toInt < 0) (
 .row [.int 1, (.bool false)]) (
 cond (eqC (cl v3 v4 5) 0 0) (
 cond ((cl v3 v4 6).toInt = 0) (
 cond ((cl v3 v4 7).toInt = 0) (
 cond ((cl v3 v4 8).toInt = 0) (
 Ge (.int v4) (sl (Hm v0 v1 v2 v3 (cl v3 v4 0)) 1) (.int 0) v0 v1 v2 v3 (cl v3 v4 0) (cl v3 v4 1) (cl v3 v4 2) (cl v3 v4 3) (cl v3 v4 4) (cl v3 v4 5) (cl v3 v4 6) (cl v3 v4 7) (cl v3 v4 8)) (
 .row [.int 1, (.bool false)])) (
 .row [.int 1, (.bool false)])) (
 .row [.int 1, (.bool false)])) (
 cond ((sl (Ip v0 v1 v2 v3 (cl v3 v4 5)) 0).toInt = 1) (
 cond ((sl (Ip v0 v1 v2 v3 (cl v3 v4 5)) 1).toInt < 0) (
 .row [.int 1, (.bool false)]) (
 cond ((cl v3 v4 6).toInt < 0) (
 .row [.int 1, (.bool false)]) (
 cond ((cl v3 v4 7).toInt < (cl v3 v4 6).toInt) (
 .row [.int 1, (.bool false)]) (
 cond ((sl (Ip v0 v1 v2 v3 (cl v3 v4 5)) 1).toInt < len v2) (
 cond ((cl v2 (sl (Ip v0 v1 v2 v3 (cl v3 v4 5)) 1).toInt 1).toInt < (cl v3 v4 7).toInt) (
 .row [.int 1, (.bool false)]) (
 cond ((cl v3 v4 8).toInt < (-1000)) (
 .row [.int 1, (.bool false)]) (
 cond (1000 < (cl v3 v4 8).toInt) (
 .row [.int 1, (.bool false)]) (
 cond ((IntKind.wrap .i64 ((cl v3 v4 6).toInt + (cl v3 v4 8).toInt)) < 0) (
 .row [.int 1, (.bool false)]) (
 cond ((cl v2 (sl (Ip v0 v1 v2 v3 (cl v3 v4 5)) 1).toInt 1).toInt < (IntKind.wrap .i64 ((cl v3 v4 7).toInt + (cl v3 v4 8).toInt))) (
 .row [.int 1, (.bool false)]) (
 Ge (.int v4) (sl (Hm v0 v1 v2 v3 (cl v3 v4 0)) 1) (.int 0) v0 v1 v2 v3 (cl v3 v4 0) (cl v3 v4 1) (cl v3 v4 2) (cl v3 v4 3) (cl v3 v4 4) (cl v3 v4 5) (cl v3 v4 6) (cl v3 v4 7) (cl v3 v4 8))))))) (
 .row []))))) (
 .row [])))) (
 .row []))) (
 .row [])) (
 .row [])) := gw rfl rfl (cL rfl (cL (cQ (cL rfl (cQ (cL rfl (cg rfl (cQ (cQ (cQ rfl rfl) rfl) rfl) (cQ (cL rfl (cL rfl (cL rfl (cL (cL rfl (cL rfl (cL rfl rfl))) rfl)))) rfl))) rfl)) rfl) rfl))
theorem YF (v0 v1 v2 : Int) (v3 v4 v5 v6 v7 v8 : D) (v9 : Int) (v10 v11 v12 : D) (v13 v14 v15 : Int) : Ge (.int v0) (.int v1) (.int v2) v3 v4 v5 v6 v7 v8 (.int v9) v10 v11 v12 (.int v13) (.int v14) (.int v15) =
  cond (v2 < v0) (
 cond (v2 < 0) (
 .row []) (
 cond (v2 < len v6) (
 cond ((D.strEq (cl v6 v2 0) v7 && (D.strEq (cl v6 v2 1) v8 && (decide ((cl v6 v2 2).toInt = v9) && (D.strEq (cl v6 v2 3) v10 && (D.strEq (cl v6 v2 4) v11 && (D.strEq (cl v6 v2 5) v12 && (decide ((cl v6 v2 6).toInt = v13) && (decide ((cl v6 v2 7).toInt = v14) && decide ((cl v6 v2 8).toInt = v15)))))))))) (
 .row [.int 1, (.bool false)]) (
 Ge (.int v0) (.int v1) (.int (IntKind.wrap .i64 (v2 + 1))) v3 v4 v5 v6 v7 v8 (.int v9) v10 v11 v12 (.int v13) (.int v14) (.int v15))) (
 .row []))) (
 cond (v9 = 1) (
 cond ((sl (Do v10) 0).toInt = 1) (
 cond ((sl (Do v10) 1).toBool) (
 cond ((sl (Do v11) 0).toInt = 1) (
 cond ((sl (Do v11) 1).toBool) (
 .row [.int 1, (.bool (!D.strEq v11 v3))]) (
 .row [.int 1, (.bool false)])) (
 .row [])) (
 .row [.int 1, (.bool false)])) (
 .row [])) (
 cond (v9 = 2) (
 cond ((sl (Do v10) 0).toInt = 1) (
 cond ((sl (Do v10) 1).toBool) (
 cond ((sl (Do v11) 0).toInt = 1) (
 cond ((sl (Do v11) 1).toBool) (
 .row [.int 1, (.bool (!D.strEq v11 v3))]) (
 .row [.int 1, (.bool false)])) (
 .row [])) (
 .row [.int 1, (.bool false)])) (
 .row [])) (
 cond (v9 = 3) (
 cond (eqC v10 0 0) (
 cond (eqC v11 0 0) (
 cond (v1 < 0) (
 .row []) (
 cond (v1 < len v4) (
 .row [.int 1, (.bool (decide (0 < (cl v4 v1 2).toInt)))]) (
 .row []))) (
 .row [.int 1, (.bool false)])) (
 .row [.int 1, (.bool false)])) (
 cond (v9 = 4) (
 cond (eqC v10 0 0) (
 .row [.int 1, (.bool (eqC v11 0 0))]) (
 .row [.int 1, (.bool false)])) (
 .row [.int 1, (.bool false)]))))) := gw rfl rfl (cL (cL rfl (cL (cg (aE rfl (aE rfl (aE (qE rfl rfl) (aE rfl (aE rfl (aE rfl (aE (qE rfl rfl) (aE (qE rfl rfl) (qE rfl rfl))))))))) rfl rfl) rfl)) (cQ (cQ (cg rfl (cQ rfl rfl) rfl) rfl) (cQ (cQ (cg rfl (cQ rfl rfl) rfl) rfl) (cQ rfl (cQ rfl rfl)))))
theorem ij (v0 v1 v2 v3 : D) : PS v0 v1 v2 v3 =
  cond ((sl (Do v0) 0).toInt = 1) (
 cond ((sl (Do v0) 1).toBool) (
 cond (4 < (len v2 : Int)) (
 .row [.int 1, (.int 4), (.int 291)]) (
 JO (.int 0) v0 v1 v2 v3)) (
 .row [.int 1, (.int 0), (.int 290)])) (
 .row []) := gw rfl rfl (cQ rfl rfl)
theorem Zb (v0 : Int) (v1 v2 v3 v4 : D) : JO (.int v0) v1 v2 v3 v4 =
  cond (v0 < len v3) (
 cond (v0 < 0) (
 .row []) (
 cond ((sl (Do (cl v3 v0 0)) 0).toInt = 1) (
 cond ((sl (Do (cl v3 v0 0)) 1).toBool) (
 cond ((sl (Ip v1 v2 v3 v4 (cl v3 v0 0)) 0).toInt = 1) (
 cond ((sl (Ip v1 v2 v3 v4 (cl v3 v0 0)) 1).toInt = v0) (
 cond ((cl v3 v0 1).toInt < 1) (
 .row [.int 1, (.int v0), (.int 291)]) (
 cond (1000 < (cl v3 v0 1).toInt) (
 .row [.int 1, (.int v0), (.int 291)]) (
 JO (.int (IntKind.wrap .i64 (v0 + 1))) v1 v2 v3 v4))) (
 .row [.int 1, (.int v0), (.int 291)])) (
 .row [])) (
 .row [.int 1, (.int v0), (.int 291)])) (
 .row []))) (
 cond ((len v2 : Int) = 0) (
 .row [.int 1, (.int 0), (.int 292)]) (
 cond (24 < (len v2 : Int)) (
 .row [.int 1, (.int 24), (.int 292)]) (
 J7 (.int 0) v1 v2 v3 v4))) := gw rfl rfl (cL (cL rfl (cQ (cg rfl (cQ (cQ (cL rfl (cL rfl rfl)) rfl) rfl) rfl) rfl)) (cQ rfl rfl))
theorem Zg (v0 : Int) (v1 v2 v3 v4 : D) : J7 (.int v0) v1 v2 v3 v4 =
  cond (v0 < len v2) (
 cond (v0 < 0) (
 .row []) (
 cond ((sl (Do (cl v2 v0 0)) 0).toInt = 1) (
 cond ((sl (Do (cl v2 v0 0)) 1).toBool) (
 cond ((sl (Hm v1 v2 v3 v4 (cl v2 v0 0)) 0).toInt = 1) (
 cond ((sl (Hm v1 v2 v3 v4 (cl v2 v0 0)) 1).toInt = v0) (
 cond ((cl v2 v0 2).toInt < 0) (
 .row [.int 1, (.int v0), (.int 292)]) (
 cond (1048576 < (cl v2 v0 2).toInt) (
 .row [.int 1, (.int v0), (.int 292)]) (
 J7 (.int (IntKind.wrap .i64 (v0 + 1))) v1 v2 v3 v4))) (
 .row [.int 1, (.int v0), (.int 292)])) (
 .row [])) (
 .row [.int 1, (.int v0), (.int 292)])) (
 .row []))) (
 cond (80 < (len v4 : Int)) (
 .row [.int 1, (.int 80), (.int 293)]) (
 JH (.int 0) v1 v2 v3 v4)) := gw rfl rfl (cL (cL rfl (cQ (cg rfl (cQ (cQ (cL rfl (cL rfl rfl)) rfl) rfl) rfl) rfl)) rfl)
theorem Zk (v0 : Int) (v1 v2 v3 v4 : D) : JH (.int v0) v1 v2 v3 v4 =
  cond (v0 < len v4) (
 cond ((sl (SG v1 v2 v3 v4 (.int v0)) 0).toInt = 1) (
 cond ((sl (SG v1 v2 v3 v4 (.int v0)) 1).toBool) (
 JH (.int (IntKind.wrap .i64 (v0 + 1))) v1 v2 v3 v4) (
 .row [.int 1, (.int v0), (.int 293)])) (
 .row [])) (
 .row [.int 1, (.int 0), (.int 0)]) := gw rfl rfl (cL (cQ rfl rfl) rfl)
theorem ja (v0 : D) : Pf v0 =
  cond (4 < (len v0 : Int)) (
 .row [.int 1, Ar, Ar, (.int 2)]) (
 P6 v0 (.int 0) Ar (.bool true) Ar (.bool true)) := gw rfl rfl rfl
theorem Y0 (v0 : D) (v1 : Int) (v2 : D) (v3 : Bool) (v4 : D) (v5 : Bool) : P6 v0 (.int v1) v2 (.bool v3) v4 (.bool v5) =
  cond (v1 < len v0) (
 cond (v1 < 0) (
 .row []) (
 cond (eqC (cl v0 v1 0) 0 0) (
 .row [.int 1, Ar, Ar, (.int 2)]) (
 cond ((cl v0 v1 1).toInt < 1) (
 .row [.int 1, Ar, Ar, (.int 2)]) (
 cond (1000 < (cl v0 v1 1).toInt) (
 .row [.int 1, Ar, Ar, (.int 2)]) (
 Sd v0 (.int v1) (.int 0) v2 (.bool v3) v4 (.bool v5)))))) (
 .row [.int 1, (ni v2 v3), (ni v4 v5), (.int 0)]) := gw rfl rfl (cL (cL rfl (cg rfl rfl (cL rfl (cL rfl rfl)))) rfl)
theorem Zh (v0 : D) (v1 v2 : Int) (v3 : D) (v4 : Bool) (v5 : D) (v6 : Bool) : Sd v0 (.int v1) (.int v2) v3 (.bool v4) v5 (.bool v6) =
  cond (v2 < v1) (
 cond (v2 < 0) (
 .row []) (
 cond (v2 < len v0) (
 cond (v1 < 0) (
 .row []) (
 cond (v1 < len v0) (
 cond (D.strEq (cl v0 v2 0) (cl v0 v1 0)) (
 .row [.int 1, Ar, Ar, (.int 2)]) (
 Sd v0 (.int v1) (.int (IntKind.wrap .i64 (v2 + 1))) v3 (.bool v4) v5 (.bool v6))) (
 .row []))) (
 .row []))) (
 cond (v1 < 0) (
 .row []) (
 cond (v1 < len v0) (
 cond ((len v3 : Int) < 1073741824) (
 cond ((len v5 : Int) < 1073741824) (
 P6 v0 (.int (IntKind.wrap .i64 (v1 + 1))) (ad v3 (.row [(cl v0 v1 0), (cl v0 v1 1)])) (.bool false) (ad v5 (.row [(.int 0)])) (.bool false)) (
 .row [])) (
 .row [])) (
 .row []))) := gw rfl rfl (cL rfl (cL rfl (cL (cL (cL rfl rfl) rfl) rfl)))
theorem YH (v0 v1 v2 v3 : D) : DP v0 v1 v2 v3 =
  cond ((sl (PS v0 v1 v2 v3) 0).toInt = 1) (
 cond ((sl (PS v0 v1 v2 v3) 2).toInt = 0) (
 cond ((sl (Pf v2) 0).toInt = 1) (
 cond (0 < (len v1 : Int)) (
 .row [.int 1, v0, v1, v2, v3, (cl v1 0 0), (sl (Pf v2) 1), (sl (Pf v2) 2), (.int 0)]) (
 .row [])) (
 .row [])) (
 .row [.int 1, (CG 0 0), Ar, Ar, Ar, (CG 0 0), Ar, Ar, (sl (PS v0 v1 v2 v3) 2)])) (
 .row []) := gw rfl rfl (cQ (cQ (cQ rfl rfl) rfl) rfl)
theorem YX (v0 v1 v2 v3 v4 : D) : Fv v0 v1 v2 v3 v4 =
 Hk v4 (.int 0) v0 v1 v2 v3 := gw rfl rfl rfl
theorem UW (v0 : D) (v1 : Int) (v2 v3 v4 v5 : D) : Hk v0 (.int v1) v2 v3 v4 v5 =
  cond (v1 < len v3) (
 cond (v1 < 0) (
 .row []) (
 cond (D.strEq (cl v3 v1 0) v0) (
 .row [.int 1, (cl v3 v1 0), (cl v3 v1 1), (cl v3 v1 2)]) (
 Hk v0 (.int (IntKind.wrap .i64 (v1 + 1))) v2 v3 v4 v5))) (
 .row [.int 1, (CG 0 0), (.bool false), (.int 0)]) := gw rfl rfl rfl
theorem Zf (v0 v1 v2 : D) : Lo v0 v1 v2 =
  cond ((len v2 : Int) = (len v1 : Int)) (
 Pw v2 (.int 0) v0 v1) (
 .row [.int 1, v0, v1, (.int 2)]) := gw rfl rfl (cQ rfl rfl)
theorem Yu (v0 : D) (v1 : Int) (v2 v3 : D) : Pw v0 (.int v1) v2 v3 =
  cond (v1 < len v0) (
 cond (v1 < 0) (
 .row []) (
 cond ((cl v0 v1 0).toInt < 0) (
 .row [.int 1, v2, v3, (.int 3)]) (
 cond (v1 < len v2) (
 cond ((cl v2 v1 1).toInt < (cl v0 v1 0).toInt) (
 .row [.int 1, v2, v3, (.int 3)]) (
 Pw v0 (.int (IntKind.wrap .i64 (v1 + 1))) v2 v3)) (
 .row [])))) (
 cond ((len v0 : Int) < 1048576) (
 .row [.int 1, v2, (ni (ct Ac v0) false), (.int 0)]) (
 .row [])) := gw rfl rfl (cL rfl (cL rfl rfl))
theorem Ys (v0 v1 v2 v3 v4 v5 : D) (v6 : Int) : Az v0 v1 v2 v3 v4 v5 (.int v6) =
  cond ((sl (DP v0 v1 v2 v3) 0).toInt = 1) (
 cond ((sl (DP v0 v1 v2 v3) 8).toInt = 0) (
 cond ((sl (Fv v0 v1 v2 v3 v4) 0).toInt = 1) (
 cond (D.strEq (sl (Fv v0 v1 v2 v3 v4) 1) v4) (
 cond (eqC v4 0 0) (
 .row [.int 1, (CG 0 0), Ar, Ar, Ar, (CG 0 0), (.int 0), Ar, Ar, (.int 0), (.int 2)]) (
 cond (v6 < 0) (
 .row [.int 1, (CG 0 0), Ar, Ar, Ar, (CG 0 0), (.int 0), Ar, Ar, (.int 0), (.int 2)]) (
 cond (1099511627776 < v6) (
 .row [.int 1, (CG 0 0), Ar, Ar, Ar, (CG 0 0), (.int 0), Ar, Ar, (.int 0), (.int 2)]) (
 cond ((sl (Lo (sl (DP v0 v1 v2 v3) 6) (sl (DP v0 v1 v2 v3) 7) v5) 0).toInt = 1) (
 cond ((sl (Lo (sl (DP v0 v1 v2 v3) 6) (sl (DP v0 v1 v2 v3) 7) v5) 3).toInt = 0) (
 .row [.int 1, (sl (DP v0 v1 v2 v3) 1), (sl (DP v0 v1 v2 v3) 2), (sl (DP v0 v1 v2 v3) 3), (sl (DP v0 v1 v2 v3) 4), v4, (.int v6), (sl (Lo (sl (DP v0 v1 v2 v3) 6) (sl (DP v0 v1 v2 v3) 7) v5) 1), (sl (Lo (sl (DP v0 v1 v2 v3) 6) (sl (DP v0 v1 v2 v3) 7) v5) 2), (.int v6), (.int 0)]) (
 .row [.int 1, (CG 0 0), Ar, Ar, Ar, (CG 0 0), (.int 0), Ar, Ar, (.int 0), (.int 2)])) (
 .row []))))) (
 .row [.int 1, (CG 0 0), Ar, Ar, Ar, (CG 0 0), (.int 0), Ar, Ar, (.int 0), (.int 2)])) (
 .row [])) (
 .row [.int 1, (CG 0 0), Ar, Ar, Ar, (CG 0 0), (.int 0), Ar, Ar, (.int 0), (.int 2)])) (
 .row []) := gw rfl rfl (cQ (cQ (cQ (cg rfl (cg rfl rfl (cL rfl (cL rfl (cQ (cQ rfl rfl) rfl)))) rfl) rfl) rfl) rfl)
theorem Y9 (v0 : D) (v1 : Bool) (v2 : D) : Ez v0 (.bool v1) v2 =
  cond ((len v0 : Int) = (len v2 : Int)) (
 Pp v0 (.bool v1) v2 (.int 0)) (
 .row [.int 1, (.bool false)]) := gw rfl rfl (cQ rfl rfl)
theorem Sg (v0 : D) (v1 : Bool) (v2 : D) (v3 : Int) : Pp v0 (.bool v1) v2 (.int v3) =
  cond (v3 < len v0) (
 cond (v3 < 0) (
 .row []) (
 cond (v3 < len v2) (
 cond ((cl v0 v3 0).toInt = (cl v2 v3 0).toInt) (
 Pp v0 (.bool v1) v2 (.int (IntKind.wrap .i64 (v3 + 1)))) (
 .row [.int 1, (.bool false)])) (
 .row []))) (
 .row [.int 1, (.bool true)]) := gw rfl rfl (cL (cL rfl (cL (cQ rfl rfl) rfl)) rfl)
theorem lB (v0 : D) (v1 : Bool) (v2 : D) : Gg v0 (.bool v1) v2 =
  cond ((sl (DS v0 (.bool v1) v2) 0).toInt = 1) (
 cond ((sl (DS v0 (.bool v1) v2) 1).toInt < 0) (
 .row [.int 1, (.int 0), (.int 9)]) (
 cond ((sl (DS v0 (.bool v1) v2) 1).toInt < len v0) (
 .row [.int 1, (cl v0 (sl (DS v0 (.bool v1) v2) 1).toInt 2), (.int 0)]) (
 .row []))) (
 .row []) := gw rfl rfl (cQ rfl rfl)
theorem j5 (v0 : D) (v1 : Bool) (v2 v3 : D) (v4 : Int) (v5 v6 v7 : D) (v8 v9 v10 : Int) : Gh v0 (.bool v1) v2 v3 (.int v4) v5 v6 v7 (.int v8) (.int v9) (.int v10) =
  cond (eqC v7 0 0) (
 .row [.int 1, (.bool true), (.int 0)]) (
 cond ((sl (Gg v0 (.bool v1) v7) 0).toInt = 1) (
 cond ((sl (Gg v0 (.bool v1) v7) 2).toInt = 0) (
 cond ((sl (DS v0 (.bool v1) v7) 0).toInt = 1) (
 cond ((sl (DS v0 (.bool v1) v7) 1).toInt < 0) (
 .row []) (
 cond ((sl (DS v0 (.bool v1) v7) 1).toInt < len v0) (
 cond ((sl (Gg v0 (.bool v1) v7) 1).toInt < v8) (
 .row [.int 1, (.bool false), (.int 0)]) (
 cond (v9 < (sl (Gg v0 (.bool v1) v7) 1).toInt) (
 .row [.int 1, (.bool false), (.int 0)]) (
 cond (v10 < (IntKind.wrap .i64 (0 - (sl (Gg v0 (.bool v1) v7) 1).toInt))) (
 .row [.int 1, (.bool false), (.int 0)]) (
 .row [.int 1, (.bool (!decide ((IntKind.wrap .i64 ((cl v0 (sl (DS v0 (.bool v1) v7) 1).toInt 1).toInt - (sl (Gg v0 (.bool v1) v7) 1).toInt)) < v10))), (.int 0)])))) (
 .row []))) (
 .row [])) (
 .row [.int 1, (.bool false), (sl (Gg v0 (.bool v1) v7) 2)])) (
 .row [])) := gw rfl rfl (cg rfl rfl (cQ (cQ (cQ rfl rfl) rfl) rfl))
theorem hI (v0 : D) (v1 : Bool) (v2 v3 : D) (v4 : Bool) (v5 : D) (v6 : Bool) (v7 : D) (v8 : Bool) (v9 : D) (v10 : Bool) (v11 v12 : Int) (v13 v14 v15 : D) (v16 v17 : Bool) (v18 : D) (v19 v20 : Bool) (v21 v22 : D) (v23 : Int) (v24 v25 v26 : D) (v27 v28 v29 : Int) : Sj v0 (.bool v1) v2 v3 (.bool v4) v5 (.bool v6) v7 (.bool v8) v9 (.bool v10) (.int v11) (.int v12) v13 v14 v15 (.bool v16) (.bool v17) v18 (.bool v19) (.bool v20) v21 v22 (.int v23) v24 v25 v26 (.int v27) (.int v28) (.int v29) =
 Lm (.int 0) v2 v3 (.bool v4) v5 (.bool v6) v7 (.bool v8) v9 (.bool v10) (.int v11) (.bool v17) v18 (.bool v19) v0 (.bool v1) (.int v12) v14 v15 (.bool v16) v13 v21 v22 (.int v23) v24 v25 v26 (.int v27) (.int v28) (.int v29) (.bool v20) := gw rfl rfl rfl
theorem RV (v0 : Int) (v1 v2 : D) (v3 : Bool) (v4 : D) (v5 : Bool) (v6 : D) (v7 : Bool) (v8 : D) (v9 : Bool) (v10 : Int) (v11 : Bool) (v12 : D) (v13 : Bool) (v14 : D) (v15 : Bool) (v16 : Int) (v17 v18 : D) (v19 : Bool) (v20 v21 v22 : D) (v23 : Int) (v24 v25 v26 : D) (v27 v28 v29 : Int) (v30 : Bool) : Lm (.int v0) v1 v2 (.bool v3) v4 (.bool v5) v6 (.bool v7) v8 (.bool v9) (.int v10) (.bool v11) v12 (.bool v13) v14 (.bool v15) (.int v16) v17 v18 (.bool v19) v20 v21 v22 (.int v23) v24 v25 v26 (.int v27) (.int v28) (.int v29) (.bool v30) =
  cond (v0 < 3) (
 cond (v0 = 0) (
 cond (D.strEq v21 v8) (
 Lm (.int (IntKind.wrap .i64 (v0 + 1))) v1 v2 (.bool v3) v4 (.bool v5) v6 (.bool v7) v8 (.bool v9) (.int v10) (.bool v11) v12 (.bool v13) v14 (.bool v15) (.int v16) v17 v18 (.bool v19) v20 v21 v22 (.int v23) v24 v25 v26 (.int v27) (.int v28) (.int v29) (.bool v30)) (
 .row [.int 1, (.bool false)])) (
 cond (v0 = 1) (
 cond ((sl (Gh v14 (.bool v15) v21 v22 (.int v23) v24 v25 v26 (.int v27) (.int v28) (.int v29)) 0).toInt = 1) (
 cond ((sl (Gh v14 (.bool v15) v21 v22 (.int v23) v24 v25 v26 (.int v27) (.int v28) (.int v29)) 1).toBool) (
 Lm (.int (IntKind.wrap .i64 (v0 + 1))) v1 v2 (.bool v3) v4 (.bool v5) v6 (.bool v7) v8 (.bool v9) (.int v10) (.bool v11) v12 (.bool v13) v14 (.bool v15) (.int v16) v17 v18 (.bool v19) v20 v21 v22 (.int v23) v24 v25 v26 (.int v27) (.int v28) (.int v29) (.bool v30)) (
 .row [.int 1, (.bool false)])) (
 .row [])) (
 cond (v0 = 2) (
 cond (v23 = 3) (
 cond (v30) (
 Lm (.int (IntKind.wrap .i64 (v0 + 1))) v1 v2 (.bool v3) v4 (.bool v5) v6 (.bool v7) v8 (.bool v9) (.int v10) (.bool v11) v12 (.bool v13) v14 (.bool v15) (.int v16) v17 v18 (.bool v19) v20 v21 v22 (.int v23) v24 v25 v26 (.int v27) (.int v28) (.int v29) (.bool v30)) (
 .row [.int 1, (.bool false)])) (
 Lm (.int (IntKind.wrap .i64 (v0 + 1))) v1 v2 (.bool v3) v4 (.bool v5) v6 (.bool v7) v8 (.bool v9) (.int v10) (.bool v11) v12 (.bool v13) v14 (.bool v15) (.int v16) v17 v18 (.bool v19) v20 v21 v22 (.int v23) v24 v25 v26 (.int v27) (.int v28) (.int v29) (.bool v30))) (
 .row [])))) (
 .row [.int 1, (.bool true)]) := gw rfl rfl (cL (cQ rfl (cQ (cQ rfl rfl) (cQ (cQ rfl rfl) rfl))) rfl)
theorem kN (v0 : D) (v1 : Bool) (v2 : D) (v3 : Bool) (v4 v5 : D) (v6 : Bool) (v7 : D) (v8 v9 : Bool) (v10 : D) (v11 : Bool) (v12 v13 : Int) (v14 v15 v16 : D) (v17 v18 : Bool) (v19 : D) (v20 v21 : Bool) : RO v0 (.bool v1) v2 (.bool v3) v4 v5 (.bool v6) v7 (.bool v8) (.bool v9) v10 (.bool v11) (.int v12) (.int v13) v14 v15 v16 (.bool v17) (.bool v18) v19 (.bool v20) (.bool v21) =
 Nb Ar (.bool true) v0 (.bool v1) (.int 0) (.bool v21) v4 v5 (.bool v6) v7 (.bool v8) (.bool v9) v10 (.bool v11) (.int v12) (.bool v18) v19 (.bool v20) v2 (.bool v3) (.int v13) v15 v16 (.bool v17) v14 := gw rfl rfl rfl
theorem YN (v0 : D) (v1 : Bool) (v2 : D) (v3 : Bool) (v4 : Int) (v5 : Bool) (v6 v7 : D) (v8 : Bool) (v9 : D) (v10 v11 : Bool) (v12 : D) (v13 : Bool) (v14 : Int) (v15 : Bool) (v16 : D) (v17 : Bool) (v18 : D) (v19 : Bool) (v20 : Int) (v21 v22 : D) (v23 : Bool) (v24 : D) : Nb v0 (.bool v1) v2 (.bool v3) (.int v4) (.bool v5) v6 v7 (.bool v8) v9 (.bool v10) (.bool v11) v12 (.bool v13) (.int v14) (.bool v15) v16 (.bool v17) v18 (.bool v19) (.int v20) v21 v22 (.bool v23) v24 =
  cond (v4 < len v2) (
 cond (v4 < 0) (
 .row []) (
 cond ((cl v2 v4 2).toInt = 3) (
 cond ((sl (Sj v18 (.bool v19) v6 v7 (.bool v8) v9 (.bool v10) v2 (.bool v11) v12 (.bool v13) (.int v14) (.int v20) v24 v21 v22 (.bool v23) (.bool v15) v16 (.bool v17) (.bool v5) (cl v2 v4 0) (cl v2 v4 1) (cl v2 v4 2) (cl v2 v4 3) (cl v2 v4 4) (cl v2 v4 5) (cl v2 v4 6) (cl v2 v4 7) (cl v2 v4 8)) 0).toInt = 1) (
 cond ((sl (Sj v18 (.bool v19) v6 v7 (.bool v8) v9 (.bool v10) v2 (.bool v11) v12 (.bool v13) (.int v14) (.int v20) v24 v21 v22 (.bool v23) (.bool v15) v16 (.bool v17) (.bool v5) (cl v2 v4 0) (cl v2 v4 1) (cl v2 v4 2) (cl v2 v4 3) (cl v2 v4 4) (cl v2 v4 5) (cl v2 v4 6) (cl v2 v4 7) (cl v2 v4 8)) 1).toBool) (
 cond ((len v0 : Int) < 1073741824) (
 Nb (ad v0 (.row [(cl v2 v4 0), (cl v2 v4 1), (cl v2 v4 2), (cl v2 v4 3), (cl v2 v4 4), (cl v2 v4 5), (cl v2 v4 6), (cl v2 v4 7), (cl v2 v4 8)])) (.bool false) v2 (.bool v3) (.int (IntKind.wrap .i64 (v4 + 1))) (.bool v5) v6 v7 (.bool v8) v9 (.bool v10) (.bool v11) v12 (.bool v13) (.int v14) (.bool v15) v16 (.bool v17) v18 (.bool v19) (.int v20) v21 v22 (.bool v23) v24) (
 .row [])) (
 Nb v0 (.bool v1) v2 (.bool v3) (.int (IntKind.wrap .i64 (v4 + 1))) (.bool v5) v6 v7 (.bool v8) v9 (.bool v10) (.bool v11) v12 (.bool v13) (.int v14) (.bool v15) v16 (.bool v17) v18 (.bool v19) (.int v20) v21 v22 (.bool v23) v24)) (
 .row [])) (
 Nb v0 (.bool v1) v2 (.bool v3) (.int (IntKind.wrap .i64 (v4 + 1))) (.bool v5) v6 v7 (.bool v8) v9 (.bool v10) (.bool v11) v12 (.bool v13) (.int v14) (.bool v15) v16 (.bool v17) v18 (.bool v19) (.int v20) v21 v22 (.bool v23) v24))) (
 .row [.int 1, v0, (.bool v1)]) := gw rfl rfl (cL (cL rfl (cQ (cQ (cg rfl (cL rfl rfl) rfl) rfl) rfl)) rfl)
theorem bS (v0 : D) (v1 : Bool) (v2 v3 : D) (v4 : Bool) (v5 : D) (v6 : Bool) (v7 : D) (v8 : Bool) (v9 : D) (v10 : Bool) (v11 v12 : Int) (v13 v14 v15 : D) (v16 v17 : Bool) (v18 : D) (v19 : Bool) : Pa v0 (.bool v1) v2 v3 (.bool v4) v5 (.bool v6) v7 (.bool v8) v9 (.bool v10) (.int v11) (.int v12) v13 v14 v15 (.bool v16) (.bool v17) v18 (.bool v19) =
  cond ((sl (Hg (.int v12) v13 v14 v15 (.bool v16) (.int 0)) 0).toInt = 1) (
 cond ((sl (RO v7 (.bool v8) v0 (.bool v1) v2 v3 (.bool v4) v5 (.bool v6) (.bool v8) v9 (.bool v10) (.int v11) (.int v12) v13 v14 v15 (.bool v16) (.bool v17) v18 (.bool v19) (.bool true)) 0).toInt = 1) (
 cond ((len (sl (RO v7 (.bool v8) v0 (.bool v1) v2 v3 (.bool v4) v5 (.bool v6) (.bool v8) v9 (.bool v10) (.int v11) (.int v12) v13 v14 v15 (.bool v16) (.bool v17) v18 (.bool v19) (.bool true)) 1) : Int) = 0) (
 .row [.int 1, (.int 0), (.int 9)]) (
 cond (v17) (
 .row [.int 1, (.int v12), (.int 0)]) (
 cond ((sl (Hg (.int v12) v13 v14 v15 (.bool v16) (.int 0)) 2).toInt = 0) (
 .row [.int 1, (.int (IntKind.wrap .i64 (v12 + (sl (Hg (.int v12) v13 v14 v15 (.bool v16) (.int 0)) 1).toInt))), (.int 0)]) (
 .row [.int 1, (.int 0), (.int 9)])))) (
 .row [])) (
 .row []) := gw rfl rfl (cQ (cQ (cQ rfl (cg rfl rfl (cQ rfl rfl))) rfl) rfl)
theorem lD (v0 v1 v2 : D) : D5 v0 v1 v2 =
 R5 v2 (.int 0) v0 v1 := gw rfl rfl rfl
theorem gP (v0 : D) (v1 : Int) (v2 v3 : D) : R5 v0 (.int v1) v2 v3 =
  cond (v1 < len v2) (
 cond (v1 < 0) (
 .row []) (
 cond (D.strEq (cl v2 v1 0) v0) (
 .row [.int 1, (.int v1)]) (
 R5 v0 (.int (IntKind.wrap .i64 (v1 + 1))) v2 v3))) (
 .row [.int 1, (.int (-1))]) := gw rfl rfl rfl
theorem gA (v0 v1 v2 v3 : D) (v4 : Int) (v5 v6 v7 : D) (v8 v9 v10 : Int) : JJ v0 v1 v2 v3 (.int v4) v5 v6 v7 (.int v8) (.int v9) (.int v10) =
  cond (eqC v7 0 0) (
 .row [.int 1, (.bool true), (.int 0)]) (
 cond ((sl (D5 v0 v1 v7) 0).toInt = 1) (
 cond ((sl (D5 v0 v1 v7) 1).toInt < 0) (
 .row [.int 1, (.bool false), (.int 9)]) (
 cond ((sl (D5 v0 v1 v7) 1).toInt < len v0) (
 cond ((sl (D5 v0 v1 v7) 1).toInt < len v1) (
 cond ((cl v1 (sl (D5 v0 v1 v7) 1).toInt 0).toInt < v8) (
 .row [.int 1, (.bool false), (.int 0)]) (
 cond (v9 < (cl v1 (sl (D5 v0 v1 v7) 1).toInt 0).toInt) (
 .row [.int 1, (.bool false), (.int 0)]) (
 cond (v10 < (-1000)) (
 .row [.int 1, (.bool false), (.int 0)]) (
 cond (1000 < v10) (
 .row [.int 1, (.bool false), (.int 0)]) (
 cond ((IntKind.wrap .i64 ((cl v1 (sl (D5 v0 v1 v7) 1).toInt 0).toInt + v10)) < 0) (
 .row [.int 1, (.bool false), (.int 0)]) (
 cond ((cl v0 (sl (D5 v0 v1 v7) 1).toInt 1).toInt < (IntKind.wrap .i64 ((cl v1 (sl (D5 v0 v1 v7) 1).toInt 0).toInt + v10))) (
 .row [.int 1, (.bool false), (.int 0)]) (
 .row [.int 1, (.bool true), (.int 0)]))))))) (
 .row [])) (
 .row []))) (
 .row [])) := gw rfl rfl (cg rfl rfl (cQ (cL rfl (cL (cL (cL rfl (cL rfl (cL rfl (cL rfl rfl)))) rfl) rfl)) rfl))
theorem fu (v0 v1 v2 v3 v4 : D) (v5 : Int) (v6 v7 : D) (v8 : Int) (v9 : D) (v10 v11 : Int) : Hp v0 v1 v2 v3 v4 (.int v5) v6 v7 (.int v8) v9 (.int v10) (.int v11) =
  cond (v11 < 0) (
 .row []) (
 cond (v11 < len v3) (
 cond ((sl (JJ v6 v7 (cl v3 v11 0) (cl v3 v11 1) (cl v3 v11 2) (cl v3 v11 3) (cl v3 v11 4) (cl v3 v11 5) (cl v3 v11 6) (cl v3 v11 7) (cl v3 v11 8)) 0).toInt = 1) (
 cond (D.strEq (cl v3 v11 0) v4) (
 cond ((sl (JJ v6 v7 (cl v3 v11 0) (cl v3 v11 1) (cl v3 v11 2) (cl v3 v11 3) (cl v3 v11 4) (cl v3 v11 5) (cl v3 v11 6) (cl v3 v11 7) (cl v3 v11 8)) 1).toBool) (
 cond ((cl v3 v11 2).toInt = 3) (
 cond ((sl (Fv v0 v1 v2 v3 v4) 0).toInt = 1) (
 .row [.int 1, (.bool (!decide ((IntKind.wrap .i64 (v10 - v5)) < (sl (Fv v0 v1 v2 v3 v4) 3).toInt)))]) (
 .row [])) (
 .row [.int 1, (.bool true)])) (
 .row [.int 1, (.bool false)])) (
 .row [.int 1, (.bool false)])) (
 .row [])) (
 .row [])) := gw rfl rfl (cL rfl (cL (cQ (cg rfl (cg rfl (cQ (cQ rfl rfl) rfl) rfl) rfl) rfl) rfl))
theorem jG (v0 v1 v2 v3 v4 : D) (v5 : Int) (v6 v7 : D) (v8 : Int) (v9 : D) : KO v0 v1 v2 v3 v4 (.int v5) v6 v7 (.int v8) v9 =
  cond ((sl (Fv v0 v1 v2 v3 v4) 0).toInt = 1) (
 cond ((IntKind.wrap .i64 (v5 + (sl (Fv v0 v1 v2 v3 v4) 3).toInt)) < v8) (
 H3 (.int v8) (.int 0) v0 v1 v2 v3 v4 (.int v5) v6 v7 (.int v8) v9) (
 H3 (.int (IntKind.wrap .i64 (v5 + (sl (Fv v0 v1 v2 v3 v4) 3).toInt))) (.int 0) v0 v1 v2 v3 v4 (.int v5) v6 v7 (.int v8) v9)) (
 .row []) := gw rfl rfl (cQ rfl rfl)
theorem YI (v0 v1 : Int) (v2 v3 v4 v5 v6 : D) (v7 : Int) (v8 v9 : D) (v10 : Int) (v11 : D) : H3 (.int v0) (.int v1) v2 v3 v4 v5 v6 (.int v7) v8 v9 (.int v10) v11 =
  cond (v1 < len v5) (
 cond (v1 < 0) (
 .row []) (
 cond ((cl v5 v1 2).toInt = 3) (
 cond (1099511627776 < v0) (
 H3 (.int v0) (.int (IntKind.wrap .i64 (v1 + 1))) v2 v3 v4 v5 v6 (.int v7) v8 v9 (.int v10) v11) (
 cond ((sl (Hp v2 v3 v4 v5 v6 (.int v7) v8 v9 (.int v10) v11 (.int v0) (.int v1)) 0).toInt = 1) (
 cond ((sl (Hp v2 v3 v4 v5 v6 (.int v7) v8 v9 (.int v10) v11 (.int v0) (.int v1)) 1).toBool) (
 .row [.int 1, (.int v0), (.int 0)]) (
 H3 (.int v0) (.int (IntKind.wrap .i64 (v1 + 1))) v2 v3 v4 v5 v6 (.int v7) v8 v9 (.int v10) v11)) (
 .row []))) (
 H3 (.int v0) (.int (IntKind.wrap .i64 (v1 + 1))) v2 v3 v4 v5 v6 (.int v7) v8 v9 (.int v10) v11))) (
 .row [.int 1, (.int 0), (.int 9)]) := gw rfl rfl (cL (cL rfl (cQ (cL rfl (cQ rfl rfl)) rfl)) rfl)
theorem YZ (v0 : D) (v1 : Bool) : Ft v0 (.bool v1) =
  cond (v1) (
 .row [.int 1, Ar, (.bool true)]) (
 cond ((len v0 : Int) < 1048576) (
 .row [.int 1, (ct Ac v0), (.bool false)]) (
 .row [])) := gw rfl rfl (cg rfl rfl (cL rfl rfl))
theorem hQ (v0 v1 v2 v3 v4 : D) (v5 : Int) (v6 v7 : D) (v8 : Int) (v9 : D) (v10 : Bool) (v11 : Int) (v12 : D) (v13 : Bool) : P0 v0 v1 v2 v3 v4 (.int v5) v6 v7 (.int v8) v9 (.bool v10) (.int v11) v12 (.bool v13) =
 SU v12 (.bool v13) (.int 0) v0 v1 v2 v3 v4 (.int v5) v6 v7 (.int v8) v9 (.bool v10) (.int v11) := gw rfl rfl rfl
theorem Y3 (v0 : D) (v1 : Bool) (v2 : Int) (v3 v4 v5 v6 v7 : D) (v8 : Int) (v9 v10 : D) (v11 : Int) (v12 : D) (v13 : Bool) (v14 : Int) : SU v0 (.bool v1) (.int v2) v3 v4 v5 v6 v7 (.int v8) v9 v10 (.int v11) v12 (.bool v13) (.int v14) =
  cond (v2 < len v0) (
 cond (v2 < 0) (
 .row []) (
 cond (v2 = v14) (
 cond (v14 < len v12) (
 cond (v14 < 0) (
 .row []) (
 cond ((cl v0 v2 0).toInt = (cl v12 v14 0).toInt) (
 cond ((cl v0 v2 1).toInt = (cl v12 v14 1).toInt) (
 SU v0 (.bool v1) (.int (IntKind.wrap .i64 (v2 + 1))) v3 v4 v5 v6 v7 (.int v8) v9 v10 (.int v11) v12 (.bool v13) (.int (IntKind.wrap .i64 (v14 + 1)))) (
 .row [.int 1, (.int v14)])) (
 .row [.int 1, (.int v14)]))) (
 .row [.int 1, (.int v14)])) (
 .row [.int 1, (.int v14)]))) (
 .row [.int 2, (.int v14)]) := gw rfl rfl (cL (cL rfl (cQ (cL (cL rfl (cQ (cQ rfl rfl) rfl)) rfl) rfl)) rfl)
theorem iO (v0 : D) (v1 : Bool) (v2 v3 : D) (v4 : Bool) (v5 : D) (v6 : Bool) (v7 : D) (v8 : Bool) (v9 : D) (v10 : Bool) (v11 v12 : Int) (v13 v14 v15 : D) (v16 v17 : Bool) (v18 : D) (v19 : Bool) (v20 v21 v22 v23 v24 : D) (v25 : Int) (v26 v27 : D) (v28 : Int) (v29 : D) : Ex v0 (.bool v1) v2 v3 (.bool v4) v5 (.bool v6) v7 (.bool v8) v9 (.bool v10) (.int v11) (.int v12) v13 v14 v15 (.bool v16) (.bool v17) v18 (.bool v19) v20 v21 v22 v23 v24 (.int v25) v26 v27 (.int v28) v29 =
  cond (D.strEq v9 v24) (
 cond ((sl (Fv v20 v21 v22 v23 v24) 0).toInt = 1) (
 cond (v10) (
 cond ((sl (Fv v20 v21 v22 v23 v24) 2).toBool) (
 cond (v12 = v28) (
 Np (.int 0) v2 v3 (.bool v4) v5 (.bool v6) v7 (.bool v8) v9 (.bool v10) (.int v11) (.bool v17) v18 (.bool v19) v0 (.bool v1) (.int v12) v14 v15 (.bool v16) v13 v20 v21 v22 v23 v24 (.int v25) v26 v27 (.int v28) v29) (
 .row [.int 1, (.bool false)])) (
 .row [.int 1, (.bool false)])) (
 cond ((sl (Fv v20 v21 v22 v23 v24) 2).toBool) (
 .row [.int 1, (.bool false)]) (
 cond (v12 = v28) (
 Np (.int 0) v2 v3 (.bool v4) v5 (.bool v6) v7 (.bool v8) v9 (.bool v10) (.int v11) (.bool v17) v18 (.bool v19) v0 (.bool v1) (.int v12) v14 v15 (.bool v16) v13 v20 v21 v22 v23 v24 (.int v25) v26 v27 (.int v28) v29) (
 .row [.int 1, (.bool false)])))) (
 .row [])) (
 .row [.int 1, (.bool false)]) := gw rfl rfl (cg rfl (cQ (cg rfl (cg rfl (cQ rfl rfl) rfl) (cg rfl rfl (cQ rfl rfl))) rfl) rfl)
theorem Yr (v0 : Int) (v1 v2 : D) (v3 : Bool) (v4 : D) (v5 : Bool) (v6 : D) (v7 : Bool) (v8 : D) (v9 : Bool) (v10 : Int) (v11 : Bool) (v12 : D) (v13 : Bool) (v14 : D) (v15 : Bool) (v16 : Int) (v17 v18 : D) (v19 : Bool) (v20 v21 v22 v23 v24 v25 : D) (v26 : Int) (v27 v28 : D) (v29 : Int) (v30 : D) : Np (.int v0) v1 v2 (.bool v3) v4 (.bool v5) v6 (.bool v7) v8 (.bool v9) (.int v10) (.bool v11) v12 (.bool v13) v14 (.bool v15) (.int v16) v17 v18 (.bool v19) v20 v21 v22 v23 v24 v25 (.int v26) v27 v28 (.int v29) v30 =
  cond (v0 < len v27) (
 cond (v0 < 0) (
 .row []) (
 cond ((sl (Gg v14 (.bool v15) (cl v27 v0 0)) 0).toInt = 1) (
 cond (v0 < len v28) (
 cond ((sl (Gg v14 (.bool v15) (cl v27 v0 0)) 1).toInt = (cl v28 v0 0).toInt) (
 cond ((sl (Gg v14 (.bool v15) (cl v27 v0 0)) 2).toInt = 0) (
 Np (.int (IntKind.wrap .i64 (v0 + 1))) v1 v2 (.bool v3) v4 (.bool v5) v6 (.bool v7) v8 (.bool v9) (.int v10) (.bool v11) v12 (.bool v13) v14 (.bool v15) (.int v16) v17 v18 (.bool v19) v20 v21 v22 v23 v24 v25 (.int v26) v27 v28 (.int v29) v30) (
 .row [.int 1, (.bool false)])) (
 .row [.int 1, (.bool false)])) (
 .row [])) (
 .row []))) (
 cond ((sl (Pa v14 (.bool v15) v1 v2 (.bool v3) v4 (.bool v5) v6 (.bool v7) v8 (.bool v9) (.int v10) (.int v16) v20 v17 v18 (.bool v19) (.bool v11) v12 (.bool v13)) 0).toInt = 1) (
 cond ((sl (KO v21 v22 v23 v24 v25 (.int v26) v27 v28 (.int v29) v30) 0).toInt = 1) (
 cond ((sl (Pa v14 (.bool v15) v1 v2 (.bool v3) v4 (.bool v5) v6 (.bool v7) v8 (.bool v9) (.int v10) (.int v16) v20 v17 v18 (.bool v19) (.bool v11) v12 (.bool v13)) 1).toInt = (sl (KO v21 v22 v23 v24 v25 (.int v26) v27 v28 (.int v29) v30) 1).toInt) (
 cond ((sl (Pa v14 (.bool v15) v1 v2 (.bool v3) v4 (.bool v5) v6 (.bool v7) v8 (.bool v9) (.int v10) (.int v16) v20 v17 v18 (.bool v19) (.bool v11) v12 (.bool v13)) 2).toInt = (sl (KO v21 v22 v23 v24 v25 (.int v26) v27 v28 (.int v29) v30) 2).toInt) (
 cond ((sl (Ft v12 (.bool v13)) 0).toInt = 1) (
 cond ((sl (P0 v21 v22 v23 v24 v25 (.int v26) v27 v28 (.int v29) v30 (.bool false) (.int 0) (sl (Ft v12 (.bool v13)) 1) (sl (Ft v12 (.bool v13)) 2)) 0).toInt = 1) (
 .row [.int 1, (.bool false)]) (
 cond ((sl (P0 v21 v22 v23 v24 v25 (.int v26) v27 v28 (.int v29) v30 (.bool false) (.int 0) (sl (Ft v12 (.bool v13)) 1) (sl (Ft v12 (.bool v13)) 2)) 0).toInt = 2) (
 .row [.int 1, (.bool (decide ((sl (P0 v21 v22 v23 v24 v25 (.int v26) v27 v28 (.int v29) v30 (.bool false) (.int 0) (sl (Ft v12 (.bool v13)) 1) (sl (Ft v12 (.bool v13)) 2)) 1).toInt = (len v30 : Int))))]) (
 .row []))) (
 .row [])) (
 .row [.int 1, (.bool false)])) (
 .row [.int 1, (.bool false)])) (
 .row [])) (
 .row [])) := gw rfl rfl (cL (cL rfl (cQ (cL (cQ (cQ rfl rfl) rfl) rfl) rfl)) (cQ (cQ (cQ (cQ (cQ (cQ rfl (cQ rfl rfl)) rfl) rfl) rfl) rfl) rfl))
theorem il (v0 : D) (v1 : Bool) : JS v0 (.bool v1) =
  cond (v1) (
 .row [.int 1, Ar, (.bool true)]) (
 cond ((len v0 : Int) < 1048576) (
 .row [.int 1, (ct Ac v0), (.bool false)]) (
 .row [])) := gw rfl rfl (cg rfl rfl (cL rfl rfl))
theorem gd (v0 : Int) (v1 v2 v3 : D) (v4 : Bool) : Gi (.int v0) v1 v2 v3 (.bool v4) =
  cond (v2.toBool) (
 cond ((sl (JS v3 (.bool v4)) 0).toInt = 1) (
 .row [.int 1, (.int v0), (.bool true), (sl (JS v3 (.bool v4)) 1), (sl (JS v3 (.bool v4)) 2), Ac]) (
 .row [])) (
 cond ((sl (JS v3 (.bool v4)) 0).toInt = 1) (
 .row [.int 1, (.int v0), (.bool false), (sl (JS v3 (.bool v4)) 1), (sl (JS v3 (.bool v4)) 2), v1]) (
 .row [])) := gw rfl rfl (cg rfl (cQ rfl rfl) (cQ rfl rfl))
theorem iD (v0 : D) (v1 : Bool) : DU v0 (.bool v1) =
  cond (v1) (
 .row [.int 1, Ar, (.bool true)]) (
 cond ((len v0 : Int) < 1048576) (
 .row [.int 1, (ct Ac v0), (.bool false)]) (
 .row [])) := gw rfl rfl (cg rfl rfl (cL rfl rfl))
theorem cw (v0 : D) (v1 : Bool) (v2 v3 : D) (v4 : Bool) (v5 : D) (v6 : Bool) (v7 : D) (v8 : Bool) (v9 : D) (v10 : Bool) (v11 v12 : Int) (v13 v14 v15 : D) (v16 v17 : Bool) (v18 : D) (v19 v20 : Bool) (v21 v22 : D) (v23 : Int) (v24 v25 v26 : D) (v27 v28 v29 : Int) : Sx v0 (.bool v1) v2 v3 (.bool v4) v5 (.bool v6) v7 (.bool v8) v9 (.bool v10) (.int v11) (.int v12) v13 v14 v15 (.bool v16) (.bool v17) v18 (.bool v19) (.bool v20) v21 v22 (.int v23) v24 v25 v26 (.int v27) (.int v28) (.int v29) =
 LO (.int 0) v2 v3 (.bool v4) v5 (.bool v6) v7 (.bool v8) v9 (.bool v10) (.int v11) (.bool v17) v18 (.bool v19) v0 (.bool v1) (.int v12) v14 v15 (.bool v16) v13 v21 v22 (.int v23) v24 v25 v26 (.int v27) (.int v28) (.int v29) (.bool v20) := gw rfl rfl rfl
theorem Sl (v0 : Int) (v1 v2 : D) (v3 : Bool) (v4 : D) (v5 : Bool) (v6 : D) (v7 : Bool) (v8 : D) (v9 : Bool) (v10 : Int) (v11 : Bool) (v12 : D) (v13 : Bool) (v14 : D) (v15 : Bool) (v16 : Int) (v17 v18 : D) (v19 : Bool) (v20 v21 v22 : D) (v23 : Int) (v24 v25 v26 : D) (v27 v28 v29 : Int) (v30 : Bool) : LO (.int v0) v1 v2 (.bool v3) v4 (.bool v5) v6 (.bool v7) v8 (.bool v9) (.int v10) (.bool v11) v12 (.bool v13) v14 (.bool v15) (.int v16) v17 v18 (.bool v19) v20 v21 v22 (.int v23) v24 v25 v26 (.int v27) (.int v28) (.int v29) (.bool v30) =
  cond (v0 < 3) (
 cond (v0 = 0) (
 cond (D.strEq v21 v8) (
 LO (.int (IntKind.wrap .i64 (v0 + 1))) v1 v2 (.bool v3) v4 (.bool v5) v6 (.bool v7) v8 (.bool v9) (.int v10) (.bool v11) v12 (.bool v13) v14 (.bool v15) (.int v16) v17 v18 (.bool v19) v20 v21 v22 (.int v23) v24 v25 v26 (.int v27) (.int v28) (.int v29) (.bool v30)) (
 .row [.int 1, (.bool false)])) (
 cond (v0 = 1) (
 cond ((sl (Gh v14 (.bool v15) v21 v22 (.int v23) v24 v25 v26 (.int v27) (.int v28) (.int v29)) 0).toInt = 1) (
 cond ((sl (Gh v14 (.bool v15) v21 v22 (.int v23) v24 v25 v26 (.int v27) (.int v28) (.int v29)) 1).toBool) (
 LO (.int (IntKind.wrap .i64 (v0 + 1))) v1 v2 (.bool v3) v4 (.bool v5) v6 (.bool v7) v8 (.bool v9) (.int v10) (.bool v11) v12 (.bool v13) v14 (.bool v15) (.int v16) v17 v18 (.bool v19) v20 v21 v22 (.int v23) v24 v25 v26 (.int v27) (.int v28) (.int v29) (.bool v30)) (
 .row [.int 1, (.bool false)])) (
 .row [])) (
 cond (v0 = 2) (
 cond (v23 = 3) (
 cond (v30) (
 LO (.int (IntKind.wrap .i64 (v0 + 1))) v1 v2 (.bool v3) v4 (.bool v5) v6 (.bool v7) v8 (.bool v9) (.int v10) (.bool v11) v12 (.bool v13) v14 (.bool v15) (.int v16) v17 v18 (.bool v19) v20 v21 v22 (.int v23) v24 v25 v26 (.int v27) (.int v28) (.int v29) (.bool v30)) (
 .row [.int 1, (.bool false)])) (
 LO (.int (IntKind.wrap .i64 (v0 + 1))) v1 v2 (.bool v3) v4 (.bool v5) v6 (.bool v7) v8 (.bool v9) (.int v10) (.bool v11) v12 (.bool v13) v14 (.bool v15) (.int v16) v17 v18 (.bool v19) v20 v21 v22 (.int v23) v24 v25 v26 (.int v27) (.int v28) (.int v29) (.bool v30))) (
 .row [])))) (
 .row [.int 1, (.bool true)]) := gw rfl rfl (cL (cQ rfl (cQ (cQ rfl rfl) (cQ (cQ rfl rfl) rfl))) rfl)
theorem jz (v0 : D) (v1 : Bool) (v2 : D) (v3 : Bool) (v4 v5 : D) (v6 : Bool) (v7 : D) (v8 : Bool) (v9 : D) (v10 : Bool) (v11 : D) (v12 : Bool) (v13 v14 : Int) (v15 v16 v17 : D) (v18 v19 : Bool) (v20 : D) (v21 v22 : Bool) (v23 : D) (v24 : Bool) (v25 : D) : KY v0 (.bool v1) v2 (.bool v3) v4 v5 (.bool v6) v7 (.bool v8) v9 (.bool v10) v11 (.bool v12) (.int v13) (.int v14) v15 v16 v17 (.bool v18) (.bool v19) v20 (.bool v21) (.bool v22) v23 (.bool v24) v25 =
 ME v23 (.bool v24) (.int 0) v0 (.bool v1) (.bool v22) v4 v5 (.bool v6) v7 (.bool v8) v9 (.bool v10) v11 (.bool v12) (.int v13) (.bool v19) v20 (.bool v21) v2 (.bool v3) (.int v14) v16 v17 (.bool v18) v15 v25 := gw rfl rfl rfl
theorem Zo (v0 : D) (v1 : Bool) (v2 : Int) (v3 : D) (v4 v5 : Bool) (v6 v7 : D) (v8 : Bool) (v9 : D) (v10 : Bool) (v11 : D) (v12 : Bool) (v13 : D) (v14 : Bool) (v15 : Int) (v16 : Bool) (v17 : D) (v18 : Bool) (v19 : D) (v20 : Bool) (v21 : Int) (v22 v23 : D) (v24 : Bool) (v25 v26 : D) : ME v0 (.bool v1) (.int v2) v3 (.bool v4) (.bool v5) v6 v7 (.bool v8) v9 (.bool v10) v11 (.bool v12) v13 (.bool v14) (.int v15) (.bool v16) v17 (.bool v18) v19 (.bool v20) (.int v21) v22 v23 (.bool v24) v25 v26 =
  cond (v2 < len v0) (
 cond (v2 < 0) (
 .row []) (
 cond (D.strEq (cl v0 v2 0) v26) (
 cond ((sl (Sx v19 (.bool v20) v6 v7 (.bool v8) v9 (.bool v10) v11 (.bool v12) v13 (.bool v14) (.int v15) (.int v21) v25 v22 v23 (.bool v24) (.bool v16) v17 (.bool v18) (.bool v5) (cl v0 v2 0) (cl v0 v2 1) (cl v0 v2 2) (cl v0 v2 3) (cl v0 v2 4) (cl v0 v2 5) (cl v0 v2 6) (cl v0 v2 7) (cl v0 v2 8)) 0).toInt = 1) (
 cond ((sl (Sx v19 (.bool v20) v6 v7 (.bool v8) v9 (.bool v10) v11 (.bool v12) v13 (.bool v14) (.int v15) (.int v21) v25 v22 v23 (.bool v24) (.bool v16) v17 (.bool v18) (.bool v5) (cl v0 v2 0) (cl v0 v2 1) (cl v0 v2 2) (cl v0 v2 3) (cl v0 v2 4) (cl v0 v2 5) (cl v0 v2 6) (cl v0 v2 7) (cl v0 v2 8)) 1).toBool) (
 cond ((len v3 : Int) < 1073741824) (
 ME v0 (.bool v1) (.int (IntKind.wrap .i64 (v2 + 1))) (ad v3 (.row [(.int v2)])) (.bool false) (.bool v5) v6 v7 (.bool v8) v9 (.bool v10) v11 (.bool v12) v13 (.bool v14) (.int v15) (.bool v16) v17 (.bool v18) v19 (.bool v20) (.int v21) v22 v23 (.bool v24) v25 v26) (
 .row [])) (
 ME v0 (.bool v1) (.int (IntKind.wrap .i64 (v2 + 1))) v3 (.bool v4) (.bool v5) v6 v7 (.bool v8) v9 (.bool v10) v11 (.bool v12) v13 (.bool v14) (.int v15) (.bool v16) v17 (.bool v18) v19 (.bool v20) (.int v21) v22 v23 (.bool v24) v25 v26)) (
 .row [])) (
 ME v0 (.bool v1) (.int (IntKind.wrap .i64 (v2 + 1))) v3 (.bool v4) (.bool v5) v6 v7 (.bool v8) v9 (.bool v10) v11 (.bool v12) v13 (.bool v14) (.int v15) (.bool v16) v17 (.bool v18) v19 (.bool v20) (.int v21) v22 v23 (.bool v24) v25 v26))) (
 .row [.int 1, v3, (.bool v4)]) := gw rfl rfl (cL (cL rfl (cg rfl (cQ (cg rfl (cL rfl rfl) rfl) rfl) rfl)) rfl)
theorem UQ (v0 : D) (v1 : Bool) (v2 v3 : D) (v4 : Bool) (v5 : D) (v6 : Bool) (v7 : D) (v8 : Bool) (v9 : D) (v10 : Bool) (v11 v12 : Int) (v13 v14 v15 : D) (v16 v17 : Bool) (v18 : D) (v19 : Bool) (v20 : Int) {F0 F1 : D} (h0 : Gi (.int v12) v13 v14 v15 (.bool v16) = F0) (h1 : JY (sl F0 1) (sl F0 5) (sl F0 2) (sl F0 3) (sl F0 4) (.int v20) = F1) : P3 v0 (.bool v1) v2 v3 (.bool v4) v5 (.bool v6) v7 (.bool v8) v9 (.bool v10) (.int v11) (.int v12) v13 v14 v15 (.bool v16) (.bool v17) v18 (.bool v19) (.int v20) =
  cond (v20 < v12) (
 .row [.int 1, Ar, (.bool true), (.int 3), (.bool v17), (.int v12), v14, v15, (.bool v16), v13]) (
 cond (1099511627776 < v20) (
 .row [.int 1, Ar, (.bool true), (.int 3), (.bool v17), (.int v12), v14, v15, (.bool v16), v13]) (
 cond ((sl F0 0).toInt = 1) (
 cond ((sl F1 0).toInt = 1) (
 cond (v17) (
 cond ((sl (DU v7 (.bool v8)) 0).toInt = 1) (
 cond ((sl (KY Ar (.bool true) v0 (.bool v1) v2 v3 (.bool v4) v5 (.bool v6) v7 (.bool v8) v9 (.bool v10) (.int v11) (sl F1 4) (sl F1 7) (sl F0 2) (sl F1 5) (sl F1 6) (.bool true) v18 (.bool v19) (.bool true) (sl (DU v7 (.bool v8)) 1) (sl (DU v7 (.bool v8)) 2) v9) 0).toInt = 1) (
 .row [.int 1, (sl (KY Ar (.bool true) v0 (.bool v1) v2 v3 (.bool v4) v5 (.bool v6) v7 (.bool v8) v9 (.bool v10) (.int v11) (sl F1 4) (sl F1 7) (sl F0 2) (sl F1 5) (sl F1 6) (.bool true) v18 (.bool v19) (.bool true) (sl (DU v7 (.bool v8)) 1) (sl (DU v7 (.bool v8)) 2) v9) 1), (sl (KY Ar (.bool true) v0 (.bool v1) v2 v3 (.bool v4) v5 (.bool v6) v7 (.bool v8) v9 (.bool v10) (.int v11) (sl F1 4) (sl F1 7) (sl F0 2) (sl F1 5) (sl F1 6) (.bool true) v18 (.bool v19) (.bool true) (sl (DU v7 (.bool v8)) 1) (sl (DU v7 (.bool v8)) 2) v9) 2), (.int 0), (.bool true), (sl F1 4), (sl F0 2), (sl F1 5), (sl F1 6), (sl F1 7)]) (
 .row [])) (
 .row [])) (
 cond ((sl (DU v7 (.bool v8)) 0).toInt = 1) (
 cond ((sl (KY Ar (.bool true) v0 (.bool v1) v2 v3 (.bool v4) v5 (.bool v6) v7 (.bool v8) v9 (.bool v10) (.int v11) (sl F1 4) (sl F1 7) (sl F0 2) (sl F1 5) (sl F1 6) (.bool (decide (0 < (len (sl F1 1) : Int)))) v18 (.bool v19) (.bool (decide (0 < (len (sl F1 1) : Int)))) (sl (DU v7 (.bool v8)) 1) (sl (DU v7 (.bool v8)) 2) v9) 0).toInt = 1) (
 .row [.int 1, (sl (KY Ar (.bool true) v0 (.bool v1) v2 v3 (.bool v4) v5 (.bool v6) v7 (.bool v8) v9 (.bool v10) (.int v11) (sl F1 4) (sl F1 7) (sl F0 2) (sl F1 5) (sl F1 6) (.bool (decide (0 < (len (sl F1 1) : Int)))) v18 (.bool v19) (.bool (decide (0 < (len (sl F1 1) : Int)))) (sl (DU v7 (.bool v8)) 1) (sl (DU v7 (.bool v8)) 2) v9) 1), (sl (KY Ar (.bool true) v0 (.bool v1) v2 v3 (.bool v4) v5 (.bool v6) v7 (.bool v8) v9 (.bool v10) (.int v11) (sl F1 4) (sl F1 7) (sl F0 2) (sl F1 5) (sl F1 6) (.bool (decide (0 < (len (sl F1 1) : Int)))) v18 (.bool v19) (.bool (decide (0 < (len (sl F1 1) : Int)))) (sl (DU v7 (.bool v8)) 1) (sl (DU v7 (.bool v8)) 2) v9) 2), (.int 0), (.bool (decide (0 < (len (sl F1 1) : Int)))), (sl F1 4), (sl F0 2), (sl F1 5), (sl F1 6), (sl F1 7)]) (
 .row [])) (
 .row []))) (
 .row [])) (
 .row []))) := by
  subst h0; subst h1; exact gw rfl rfl (cL rfl (cL rfl (cQ (cQ (cg rfl (cQ (cQ rfl rfl) rfl) (cQ (cQ rfl rfl) rfl)) rfl) rfl)))
theorem UM (v0 v1 v2 v3 v4 : D) (v5 : Int) (v6 v7 : D) (v8 : Int) (v9 : D) (v10 : Int) : R7 v0 v1 v2 v3 v4 (.int v5) v6 v7 (.int v8) v9 (.int v10) =
  cond (v10 < v8) (
 .row [.int 1, v0, v1, v2, v3, v4, (.int v5), v6, v7, (.int v8), v9, Ar, (.bool true), (.int 3)]) (
 cond (1099511627776 < v10) (
 .row [.int 1, v0, v1, v2, v3, v4, (.int v5), v6, v7, (.int v8), v9, Ar, (.bool true), (.int 3)]) (
 P7 (.int v10) Ar (.bool true) (.int 0) v0 v1 v2 v3 v4 (.int v5) v6 v7 v9)) := gw rfl rfl (cL rfl (cL rfl rfl))
theorem Y6 (v0 : Int) (v1 : D) (v2 : Bool) (v3 : Int) (v4 v5 v6 v7 v8 : D) (v9 : Int) (v10 v11 v12 : D) : P7 (.int v0) v1 (.bool v2) (.int v3) v4 v5 v6 v7 v8 (.int v9) v10 v11 v12 =
  cond (v3 < len v7) (
 cond ((sl (Hp v4 v5 v6 v7 v8 (.int v9) v10 v11 (.int v0) v12 (.int v0) (.int v3)) 0).toInt = 1) (
 cond ((sl (Hp v4 v5 v6 v7 v8 (.int v9) v10 v11 (.int v0) v12 (.int v0) (.int v3)) 1).toBool) (
 cond ((len v1 : Int) < 1073741824) (
 P7 (.int v0) (ad v1 (.row [(.int v3)])) (.bool false) (.int (IntKind.wrap .i64 (v3 + 1))) v4 v5 v6 v7 v8 (.int v9) v10 v11 v12) (
 .row [])) (
 P7 (.int v0) v1 (.bool v2) (.int (IntKind.wrap .i64 (v3 + 1))) v4 v5 v6 v7 v8 (.int v9) v10 v11 v12)) (
 .row [])) (
 .row [.int 1, v4, v5, v6, v7, v8, (.int v9), v10, v11, (.int v0), v12, v1, (.bool v2), (.int 0)]) := gw rfl rfl (cL (cQ (cg rfl (cL rfl rfl) rfl) rfl) rfl)
theorem je (v0 : D) (v1 : Bool) (v2 : D) (v3 : Bool) : JL v0 (.bool v1) v2 (.bool v3) =
  cond ((len v0 : Int) = (len v2 : Int)) (
 Sy v0 (.bool v1) v2 (.bool v3) (.int 0)) (
 .row [.int 1, (.bool false)]) := gw rfl rfl (cQ rfl rfl)
theorem YU (v0 : D) (v1 : Bool) (v2 : D) (v3 : Bool) (v4 : Int) : Sy v0 (.bool v1) v2 (.bool v3) (.int v4) =
  cond (v4 < len v0) (
 cond (v4 < 0) (
 .row []) (
 cond (v4 < len v2) (
 cond ((cl v0 v4 0).toInt = (cl v2 v4 0).toInt) (
 Sy v0 (.bool v1) v2 (.bool v3) (.int (IntKind.wrap .i64 (v4 + 1)))) (
 .row [.int 1, (.bool false)])) (
 .row []))) (
 .row [.int 1, (.bool true)]) := gw rfl rfl (cL (cL rfl (cL (cQ rfl rfl) rfl)) rfl)
theorem g7 (v0 : D) (v1 : Bool) (v2 v3 : D) (v4 : Bool) (v5 : D) (v6 : Bool) (v7 : D) (v8 : Bool) (v9 : D) (v10 : Bool) (v11 v12 : Int) (v13 v14 v15 : D) (v16 v17 : Bool) (v18 : D) (v19 : Bool) (v20 : Int) (v21 v22 v23 : D) (v24 v25 : Bool) (v26 v27 : D) (v28 : Int) (v29 v30 v31 : D) (v32 v33 v34 : Int) : Md v0 (.bool v1) v2 v3 (.bool v4) v5 (.bool v6) v7 (.bool v8) v9 (.bool v10) (.int v11) (.int v12) v13 v14 v15 (.bool v16) (.bool v17) v18 (.bool v19) (.int v20) v21 v22 v23 (.bool v24) (.bool v25) v26 v27 (.int v28) v29 v30 v31 (.int v32) (.int v33) (.int v34) =
 Mc (.int 0) v2 v3 (.bool v4) v5 (.bool v6) v7 (.bool v8) v9 (.bool v10) (.int v11) (.bool v17) v18 (.bool v19) v0 (.bool v1) (.int v12) v14 v15 (.bool v16) v13 (.int v20) v22 v23 (.bool v24) v21 v26 v27 (.int v28) v29 v30 v31 (.int v32) (.int v33) (.int v34) (.bool v25) := gw rfl rfl rfl
theorem R8 (v0 : Int) (v1 v2 : D) (v3 : Bool) (v4 : D) (v5 : Bool) (v6 : D) (v7 : Bool) (v8 : D) (v9 : Bool) (v10 : Int) (v11 : Bool) (v12 : D) (v13 : Bool) (v14 : D) (v15 : Bool) (v16 : Int) (v17 v18 : D) (v19 : Bool) (v20 : D) (v21 : Int) (v22 v23 : D) (v24 : Bool) (v25 v26 v27 : D) (v28 : Int) (v29 v30 v31 : D) (v32 v33 v34 : Int) (v35 : Bool) : Mc (.int v0) v1 v2 (.bool v3) v4 (.bool v5) v6 (.bool v7) v8 (.bool v9) (.int v10) (.bool v11) v12 (.bool v13) v14 (.bool v15) (.int v16) v17 v18 (.bool v19) v20 (.int v21) v22 v23 (.bool v24) v25 v26 v27 (.int v28) v29 v30 v31 (.int v32) (.int v33) (.int v34) (.bool v35) =
  cond (v0 < 3) (
 cond (v0 = 0) (
 cond (D.strEq v26 v8) (
 Mc (.int (IntKind.wrap .i64 (v0 + 1))) v1 v2 (.bool v3) v4 (.bool v5) v6 (.bool v7) v8 (.bool v9) (.int v10) (.bool v11) v12 (.bool v13) v14 (.bool v15) (.int v16) v17 v18 (.bool v19) v20 (.int v21) v22 v23 (.bool v24) v25 v26 v27 (.int v28) v29 v30 v31 (.int v32) (.int v33) (.int v34) (.bool v35)) (
 .row [.int 1, (.bool false)])) (
 cond (v0 = 1) (
 cond ((sl (Gh v14 (.bool v15) v26 v27 (.int v28) v29 v30 v31 (.int v32) (.int v33) (.int v34)) 0).toInt = 1) (
 cond ((sl (Gh v14 (.bool v15) v26 v27 (.int v28) v29 v30 v31 (.int v32) (.int v33) (.int v34)) 1).toBool) (
 Mc (.int (IntKind.wrap .i64 (v0 + 1))) v1 v2 (.bool v3) v4 (.bool v5) v6 (.bool v7) v8 (.bool v9) (.int v10) (.bool v11) v12 (.bool v13) v14 (.bool v15) (.int v16) v17 v18 (.bool v19) v20 (.int v21) v22 v23 (.bool v24) v25 v26 v27 (.int v28) v29 v30 v31 (.int v32) (.int v33) (.int v34) (.bool v35)) (
 .row [.int 1, (.bool false)])) (
 .row [])) (
 cond (v0 = 2) (
 cond (v28 = 3) (
 cond (v35) (
 Mc (.int (IntKind.wrap .i64 (v0 + 1))) v1 v2 (.bool v3) v4 (.bool v5) v6 (.bool v7) v8 (.bool v9) (.int v10) (.bool v11) v12 (.bool v13) v14 (.bool v15) (.int v16) v17 v18 (.bool v19) v20 (.int v21) v22 v23 (.bool v24) v25 v26 v27 (.int v28) v29 v30 v31 (.int v32) (.int v33) (.int v34) (.bool v35)) (
 .row [.int 1, (.bool false)])) (
 Mc (.int (IntKind.wrap .i64 (v0 + 1))) v1 v2 (.bool v3) v4 (.bool v5) v6 (.bool v7) v8 (.bool v9) (.int v10) (.bool v11) v12 (.bool v13) v14 (.bool v15) (.int v16) v17 v18 (.bool v19) v20 (.int v21) v22 v23 (.bool v24) v25 v26 v27 (.int v28) v29 v30 v31 (.int v32) (.int v33) (.int v34) (.bool v35))) (
 .row [])))) (
 .row [.int 1, (.bool true)]) := gw rfl rfl (cL (cQ rfl (cQ (cQ rfl rfl) (cQ (cQ rfl rfl) rfl))) rfl)
theorem YQ (v0 : D) (v1 : Bool) (v2 v3 : D) (v4 : Int) (v5 v6 v7 : D) (v8 v9 v10 : Int) : Ff v0 (.bool v1) v2 v3 (.int v4) v5 v6 v7 (.int v8) (.int v9) (.int v10) =
  cond ((sl (Gh v0 (.bool v1) v2 v3 (.int v4) v5 v6 v7 (.int v8) (.int v9) (.int v10)) 0).toInt = 1) (
 cond ((sl (Gh v0 (.bool v1) v2 v3 (.int v4) v5 v6 v7 (.int v8) (.int v9) (.int v10)) 2).toInt = 0) (
 cond ((sl (Gh v0 (.bool v1) v2 v3 (.int v4) v5 v6 v7 (.int v8) (.int v9) (.int v10)) 1).toBool) (
 cond (eqC v7 0 0) (
 .row [.int 1, (.int 0), v0]) (
 cond ((sl (DS v0 (.bool v1) v7) 0).toInt = 1) (
 cond ((sl (DS v0 (.bool v1) v7) 1).toInt < 0) (
 .row []) (
 cond ((sl (DS v0 (.bool v1) v7) 1).toInt < len v0) (
 .row [.int 1, (.int 0), (upd v0 (sl (DS v0 (.bool v1) v7) 1).toInt 2 (.int (IntKind.wrap .i64 ((cl v0 (sl (DS v0 (.bool v1) v7) 1).toInt 2).toInt + v10))))]) (
 .row []))) (
 .row []))) (
 .row [.int 1, (.int 8), v0])) (
 .row [.int 1, (sl (Gh v0 (.bool v1) v2 v3 (.int v4) v5 v6 v7 (.int v8) (.int v9) (.int v10)) 2), v0])) (
 .row []) := gw rfl rfl (cQ (cQ (cg rfl (cg rfl rfl (cQ rfl rfl)) rfl) rfl) rfl)
theorem dQ (v0 : D) (v1 : Bool) (v2 v3 : D) (v4 : Bool) (v5 : D) (v6 : Bool) (v7 : D) (v8 : Bool) (v9 : D) (v10 : Bool) (v11 v12 : Int) (v13 v14 v15 : D) (v16 v17 : Bool) (v18 : D) (v19 : Bool) (v20 : Int) (v21 v22 v23 : D) (v24 v25 : Bool) (v26 v27 : Int) : Ns v0 (.bool v1) v2 v3 (.bool v4) v5 (.bool v6) v7 (.bool v8) v9 (.bool v10) (.int v11) (.int v12) v13 v14 v15 (.bool v16) (.bool v17) v18 (.bool v19) (.int v20) v21 v22 v23 (.bool v24) (.bool v25) (.int v26) (.int v27) =
  cond ((len v18 : Int) < 100000) (
 cond (v27 < 0) (
 .row []) (
 cond (v27 < len v7) (
 cond ((sl (Ff v0 (.bool v1) (cl v7 v27 0) (cl v7 v27 1) (cl v7 v27 2) (cl v7 v27 3) (cl v7 v27 4) (cl v7 v27 5) (cl v7 v27 6) (cl v7 v27 7) (cl v7 v27 8)) 0).toInt = 1) (
 cond ((len (sl (Ff v0 (.bool v1) (cl v7 v27 0) (cl v7 v27 1) (cl v7 v27 2) (cl v7 v27 3) (cl v7 v27 4) (cl v7 v27 5) (cl v7 v27 6) (cl v7 v27 7) (cl v7 v27 8)) 2) : Int) = (len v0 : Int)) (
 cond ((sl (De (sl (Ff v0 (.bool v1) (cl v7 v27 0) (cl v7 v27 1) (cl v7 v27 2) (cl v7 v27 3) (cl v7 v27 4) (cl v7 v27 5) (cl v7 v27 6) (cl v7 v27 7) (cl v7 v27 8)) 2) (.bool v1) v2 v3 (.bool v4) v5 (.bool v6) v7 (.bool v8) v9 (.bool v10) (.int v11) (.int v20) v21 v22 v23 (.bool v24) (.bool v25) v18 (.bool v19) (cl v7 v27 1)) 0).toInt = 1) (
 .row [.int 1, (sl (De (sl (Ff v0 (.bool v1) (cl v7 v27 0) (cl v7 v27 1) (cl v7 v27 2) (cl v7 v27 3) (cl v7 v27 4) (cl v7 v27 5) (cl v7 v27 6) (cl v7 v27 7) (cl v7 v27 8)) 2) (.bool v1) v2 v3 (.bool v4) v5 (.bool v6) v7 (.bool v8) v9 (.bool v10) (.int v11) (.int v20) v21 v22 v23 (.bool v24) (.bool v25) v18 (.bool v19) (cl v7 v27 1)) 1), (sl (De (sl (Ff v0 (.bool v1) (cl v7 v27 0) (cl v7 v27 1) (cl v7 v27 2) (cl v7 v27 3) (cl v7 v27 4) (cl v7 v27 5) (cl v7 v27 6) (cl v7 v27 7) (cl v7 v27 8)) 2) (.bool v1) v2 v3 (.bool v4) v5 (.bool v6) v7 (.bool v8) v9 (.bool v10) (.int v11) (.int v20) v21 v22 v23 (.bool v24) (.bool v25) v18 (.bool v19) (cl v7 v27 1)) 2), (sl (De (sl (Ff v0 (.bool v1) (cl v7 v27 0) (cl v7 v27 1) (cl v7 v27 2) (cl v7 v27 3) (cl v7 v27 4) (cl v7 v27 5) (cl v7 v27 6) (cl v7 v27 7) (cl v7 v27 8)) 2) (.bool v1) v2 v3 (.bool v4) v5 (.bool v6) v7 (.bool v8) v9 (.bool v10) (.int v11) (.int v20) v21 v22 v23 (.bool v24) (.bool v25) v18 (.bool v19) (cl v7 v27 1)) 3), (ad v18 (.row [(.int v27), (.int v26)])), (.bool false), (sl (Ff v0 (.bool v1) (cl v7 v27 0) (cl v7 v27 1) (cl v7 v27 2) (cl v7 v27 3) (cl v7 v27 4) (cl v7 v27 5) (cl v7 v27 6) (cl v7 v27 7) (cl v7 v27 8)) 2), (.bool v1), (.int v12), v14, v15, (.bool v16), v13, (.int v20), (sl (De (sl (Ff v0 (.bool v1) (cl v7 v27 0) (cl v7 v27 1) (cl v7 v27 2) (cl v7 v27 3) (cl v7 v27 4) (cl v7 v27 5) (cl v7 v27 6) (cl v7 v27 7) (cl v7 v27 8)) 2) (.bool v1) v2 v3 (.bool v4) v5 (.bool v6) v7 (.bool v8) v9 (.bool v10) (.int v11) (.int v20) v21 v22 v23 (.bool v24) (.bool v25) v18 (.bool v19) (cl v7 v27 1)) 4), (sl (De (sl (Ff v0 (.bool v1) (cl v7 v27 0) (cl v7 v27 1) (cl v7 v27 2) (cl v7 v27 3) (cl v7 v27 4) (cl v7 v27 5) (cl v7 v27 6) (cl v7 v27 7) (cl v7 v27 8)) 2) (.bool v1) v2 v3 (.bool v4) v5 (.bool v6) v7 (.bool v8) v9 (.bool v10) (.int v11) (.int v20) v21 v22 v23 (.bool v24) (.bool v25) v18 (.bool v19) (cl v7 v27 1)) 5), (sl (De (sl (Ff v0 (.bool v1) (cl v7 v27 0) (cl v7 v27 1) (cl v7 v27 2) (cl v7 v27 3) (cl v7 v27 4) (cl v7 v27 5) (cl v7 v27 6) (cl v7 v27 7) (cl v7 v27 8)) 2) (.bool v1) v2 v3 (.bool v4) v5 (.bool v6) v7 (.bool v8) v9 (.bool v10) (.int v11) (.int v20) v21 v22 v23 (.bool v24) (.bool v25) v18 (.bool v19) (cl v7 v27 1)) 6), (sl (De (sl (Ff v0 (.bool v1) (cl v7 v27 0) (cl v7 v27 1) (cl v7 v27 2) (cl v7 v27 3) (cl v7 v27 4) (cl v7 v27 5) (cl v7 v27 6) (cl v7 v27 7) (cl v7 v27 8)) 2) (.bool v1) v2 v3 (.bool v4) v5 (.bool v6) v7 (.bool v8) v9 (.bool v10) (.int v11) (.int v20) v21 v22 v23 (.bool v24) (.bool v25) v18 (.bool v19) (cl v7 v27 1)) 7)]) (
 .row [])) (
 .row [])) (
 .row [])) (
 .row []))) (
 .row []) := gw rfl rfl (cL (cL rfl (cL (cQ (cQ (cQ rfl rfl) rfl) rfl) rfl)) rfl)
theorem J1 (v0 : D) (v1 : Bool) (v2 v3 : D) (v4 : Bool) (v5 : D) (v6 : Bool) (v7 : D) (v8 : Bool) (v9 : D) (v10 : Bool) (v11 v12 : Int) (v13 v14 v15 : D) (v16 v17 : Bool) (v18 : D) (v19 : Bool) (v20 v21 : Int) {F0 F1 F2 F3 F4 F5 : D} (h0 : Gi (.int v12) v13 v14 v15 (.bool v16) = F0) (h1 : JY (sl F0 1) (sl F0 5) (sl F0 2) (sl F0 3) (sl F0 4) (.int v20) = F1) (h2 : Ns v0 (.bool v1) v2 v3 (.bool v4) v5 (.bool v6) v7 (.bool v8) v9 (.bool v10) (.int v11) (.int v12) v13 v14 v15 (.bool v16) (.bool false) v18 (.bool v19) (sl F1 4) (sl F1 7) (sl F0 2) (sl F1 5) (sl F1 6) (.bool (decide (0 < (len (sl F1 1) : Int)))) (.int v20) (.int v21) = F2) (h3 : Ns v0 (.bool v1) v2 v3 (.bool v4) v5 (.bool v6) v7 (.bool v8) v9 (.bool v10) (.int v11) (.int v12) v13 v14 v15 (.bool v16) (.bool true) v18 (.bool v19) (sl F1 4) (sl F1 7) (sl F0 2) (sl F1 5) (sl F1 6) (.bool true) (.int v20) (.int v21) = F3) (h4 : Md v0 (.bool v1) v2 v3 (.bool v4) v5 (.bool v6) v7 (.bool v8) v9 (.bool v10) (.int v11) (.int v12) v13 v14 v15 (.bool v16) (.bool v17) v18 (.bool v19) (sl F1 4) (sl F1 7) (sl F0 2) (sl F1 5) (sl F1 6) (.bool (decide (0 < (len (sl F1 1) : Int)))) (cl v7 v21 0) (cl v7 v21 1) (cl v7 v21 2) (cl v7 v21 3) (cl v7 v21 4) (cl v7 v21 5) (cl v7 v21 6) (cl v7 v21 7) (cl v7 v21 8) = F4) (h5 : Md v0 (.bool v1) v2 v3 (.bool v4) v5 (.bool v6) v7 (.bool v8) v9 (.bool v10) (.int v11) (.int v12) v13 v14 v15 (.bool v16) (.bool v17) v18 (.bool v19) (sl F1 4) (sl F1 7) (sl F0 2) (sl F1 5) (sl F1 6) (.bool true) (cl v7 v21 0) (cl v7 v21 1) (cl v7 v21 2) (cl v7 v21 3) (cl v7 v21 4) (cl v7 v21 5) (cl v7 v21 6) (cl v7 v21 7) (cl v7 v21 8) = F5) : CJ v0 (.bool v1) v2 v3 (.bool v4) v5 (.bool v6) v7 (.bool v8) v9 (.bool v10) (.int v11) (.int v12) v13 v14 v15 (.bool v16) (.bool v17) v18 (.bool v19) (.int v20) (.int v21) =
  cond (v21 < 0) (
 .row [.int 1, (.int 2), v9, (.bool v10), (.int v11), (.bool v17), v18, (.bool v19), v0, (.bool v1), (.int v12), v14, v15, (.bool v16), v13]) (
 cond (v21 < len v7) (
 cond (v20 < v12) (
 .row [.int 1, (.int 3), v9, (.bool v10), (.int v11), (.bool v17), v18, (.bool v19), v0, (.bool v1), (.int v12), v14, v15, (.bool v16), v13]) (
 cond (1099511627776 < v20) (
 .row [.int 1, (.int 3), v9, (.bool v10), (.int v11), (.bool v17), v18, (.bool v19), v0, (.bool v1), (.int v12), v14, v15, (.bool v16), v13]) (
 cond ((sl F0 0).toInt = 1) (
 cond ((sl F1 0).toInt = 1) (
 cond (v17) (
 cond ((sl F5 0).toInt = 1) (
 cond ((sl F5 1).toBool) (
 cond ((sl F3 0).toInt = 1) (
 .row [.int 1, (.int 0), (sl F3 1), (sl F3 2), (sl F3 3), (.bool false), (sl F3 4), (sl F3 5), (sl F3 6), (sl F3 7), (sl F3 13), (sl F3 14), (sl F3 15), (sl F3 16), (sl F3 17)]) (
 .row [])) (
 .row [.int 1, (.int 8), v9, (.bool v10), (.int v11), (.bool true), v18, (.bool v19), v0, (.bool v1), (.int v12), v14, v15, (.bool v16), v13])) (
 .row [])) (
 cond ((sl F4 0).toInt = 1) (
 cond ((sl F4 1).toBool) (
 cond ((sl F2 0).toInt = 1) (
 .row [.int 1, (.int 0), (sl F2 1), (sl F2 2), (sl F2 3), (.bool false), (sl F2 4), (sl F2 5), (sl F2 6), (sl F2 7), (sl F2 13), (sl F2 14), (sl F2 15), (sl F2 16), (sl F2 17)]) (
 .row [])) (
 .row [.int 1, (.int 8), v9, (.bool v10), (.int v11), (.bool false), v18, (.bool v19), v0, (.bool v1), (.int v12), v14, v15, (.bool v16), v13])) (
 .row []))) (
 .row [])) (
 .row [])))) (
 .row [.int 1, (.int 2), v9, (.bool v10), (.int v11), (.bool v17), v18, (.bool v19), v0, (.bool v1), (.int v12), v14, v15, (.bool v16), v13])) := by
  subst h0; subst h1; subst h2; subst h3; subst h4; subst h5; exact gw rfl rfl (cL rfl (cL (cL rfl (cL rfl (cQ (cQ (cg rfl (cQ (cg rfl (cQ rfl rfl) rfl) rfl) (cQ (cg rfl (cQ rfl rfl) rfl) rfl)) rfl) rfl))) rfl))
theorem Yw (v0 v1 v2 v3 : D) (v4 : Int) (v5 v6 v7 : D) (v8 v9 v10 : Int) : OW v0 v1 v2 v3 (.int v4) v5 v6 v7 (.int v8) (.int v9) (.int v10) =
  cond ((sl (JJ v0 v1 v2 v3 (.int v4) v5 v6 v7 (.int v8) (.int v9) (.int v10)) 0).toInt = 1) (
 cond ((sl (JJ v0 v1 v2 v3 (.int v4) v5 v6 v7 (.int v8) (.int v9) (.int v10)) 2).toInt = 0) (
 cond ((sl (JJ v0 v1 v2 v3 (.int v4) v5 v6 v7 (.int v8) (.int v9) (.int v10)) 1).toBool) (
 cond (eqC v7 0 0) (
 .row [.int 1, v0, v1, (.int 0)]) (
 cond ((sl (D5 v0 v1 v7) 0).toInt = 1) (
 cond ((len v1 : Int) < 1048576) (
 cond ((sl (D5 v0 v1 v7) 1).toInt < 0) (
 .row []) (
 cond ((sl (D5 v0 v1 v7) 1).toInt < len (ct Ac v1)) (
 .row [.int 1, v0, (ni (upd (ct Ac v1) (sl (D5 v0 v1 v7) 1).toInt 0 (.int (IntKind.wrap .i64 ((cl (ct Ac v1) (sl (D5 v0 v1 v7) 1).toInt 0).toInt + v10)))) false), (.int 0)]) (
 .row []))) (
 .row [])) (
 .row []))) (
 .row [.int 1, v0, v1, (.int 8)])) (
 .row [.int 1, v0, v1, (sl (JJ v0 v1 v2 v3 (.int v4) v5 v6 v7 (.int v8) (.int v9) (.int v10)) 2)])) (
 .row []) := gw rfl rfl (cQ (cQ (cg rfl (cg rfl rfl (cQ (cL rfl rfl) rfl)) rfl) rfl) rfl)
theorem Nm (v0 v1 v2 v3 v4 : D) (v5 : Int) (v6 v7 : D) (v8 : Int) (v9 : D) (v10 v11 : Int) : Cw v0 v1 v2 v3 v4 (.int v5) v6 v7 (.int v8) v9 (.int v10) (.int v11) =
  cond (v11 < 0) (
 .row [.int 1, v0, v1, v2, v3, v4, (.int v5), v6, v7, (.int v8), v9, (.int 2)]) (
 cond (v11 < len v3) (
 cond (v10 < v8) (
 .row [.int 1, v0, v1, v2, v3, v4, (.int v5), v6, v7, (.int v8), v9, (.int 3)]) (
 cond (1099511627776 < v10) (
 .row [.int 1, v0, v1, v2, v3, v4, (.int v5), v6, v7, (.int v8), v9, (.int 3)]) (
 cond ((sl (Hp v0 v1 v2 v3 v4 (.int v5) v6 v7 (.int v8) v9 (.int v10) (.int v11)) 0).toInt = 1) (
 cond ((sl (Hp v0 v1 v2 v3 v4 (.int v5) v6 v7 (.int v8) v9 (.int v10) (.int v11)) 1).toBool) (
 cond ((sl (OW v6 v7 (cl v3 v11 0) (cl v3 v11 1) (cl v3 v11 2) (cl v3 v11 3) (cl v3 v11 4) (cl v3 v11 5) (cl v3 v11 6) (cl v3 v11 7) (cl v3 v11 8)) 0).toInt = 1) (
 cond ((len v9 : Int) < 1048576) (
 cond ((len (ct Ac v9) : Int) < 1073741824) (
 .row [.int 1, v0, v1, v2, v3, (cl v3 v11 1), (.int v10), (sl (OW v6 v7 (cl v3 v11 0) (cl v3 v11 1) (cl v3 v11 2) (cl v3 v11 3) (cl v3 v11 4) (cl v3 v11 5) (cl v3 v11 6) (cl v3 v11 7) (cl v3 v11 8)) 1), (sl (OW v6 v7 (cl v3 v11 0) (cl v3 v11 1) (cl v3 v11 2) (cl v3 v11 3) (cl v3 v11 4) (cl v3 v11 5) (cl v3 v11 6) (cl v3 v11 7) (cl v3 v11 8)) 2), (.int v10), (ni (ad (ct Ac v9) (.row [(.int v11), (.int v10)])) false), (.int 0)]) (
 .row [])) (
 .row [])) (
 .row [])) (
 .row [.int 1, v0, v1, v2, v3, v4, (.int v5), v6, v7, (.int v8), v9, (.int 8)])) (
 .row [])))) (
 .row [.int 1, v0, v1, v2, v3, v4, (.int v5), v6, v7, (.int v8), v9, (.int 2)])) := gw rfl rfl (cL rfl (cL (cL rfl (cL rfl (cQ (cg rfl (cQ (cL (cL rfl rfl) rfl) rfl) rfl) rfl))) rfl))
theorem Sr (v0 v1 : D) (v2 : Int) (v3 : D) (v4 : Bool) (v5 v6 : D) (v7 : Bool) (v8 : D) (v9 : Bool) (v10 : D) (v11 : Bool) (v12 : D) (v13 : Bool) (v14 v15 : Int) (v16 v17 v18 : D) (v19 v20 : Bool) (v21 : D) (v22 : Bool) (v23 : Int) (v24 v25 v26 : D) (v27 v28 : Bool) (v29 : D) (v30 : Bool) (v31 : D) : K7 v0 v1 (.int v2) v3 (.bool v4) v5 v6 (.bool v7) v8 (.bool v9) v10 (.bool v11) v12 (.bool v13) (.int v14) (.int v15) v16 v17 v18 (.bool v19) (.bool v20) v21 (.bool v22) (.int v23) v24 v25 v26 (.bool v27) (.bool v28) v29 (.bool v30) v31 =
 Ir v29 (.bool v30) (.int 0) v0 v1 (.int v2) (.bool v28) v5 v6 (.bool v7) v8 (.bool v9) v10 (.bool v11) v12 (.bool v13) (.int v14) (.bool v20) v21 (.bool v22) v3 (.bool v4) (.int v15) v17 v18 (.bool v19) v16 (.int v23) v25 v26 (.bool v27) v24 v31 := gw rfl rfl rfl
theorem Zl (v0 : D) (v1 : Bool) (v2 : Int) (v3 v4 : D) (v5 : Int) (v6 : Bool) (v7 v8 : D) (v9 : Bool) (v10 : D) (v11 : Bool) (v12 : D) (v13 : Bool) (v14 : D) (v15 : Bool) (v16 : Int) (v17 : Bool) (v18 : D) (v19 : Bool) (v20 : D) (v21 : Bool) (v22 : Int) (v23 v24 : D) (v25 : Bool) (v26 : D) (v27 : Int) (v28 v29 : D) (v30 : Bool) (v31 v32 : D) : Ir v0 (.bool v1) (.int v2) v3 v4 (.int v5) (.bool v6) v7 v8 (.bool v9) v10 (.bool v11) v12 (.bool v13) v14 (.bool v15) (.int v16) (.bool v17) v18 (.bool v19) v20 (.bool v21) (.int v22) v23 v24 (.bool v25) v26 (.int v27) v28 v29 (.bool v30) v31 v32 =
  cond (v2 < len v0) (
 cond (v2 < 0) (
 .row []) (
 cond (D.strEq (cl v0 v2 0) v32) (
 cond ((cl v0 v2 2).toInt = 2) (
 cond (D.strEq (cl v0 v2 3) v3) (
 cond (D.strEq (cl v0 v2 4) v4) (
 cond ((sl (Md v20 (.bool v21) v7 v8 (.bool v9) v10 (.bool v11) v12 (.bool v13) v14 (.bool v15) (.int v16) (.int v22) v26 v23 v24 (.bool v25) (.bool v17) v18 (.bool v19) (.int v27) v31 v28 v29 (.bool v30) (.bool v6) (cl v0 v2 0) (cl v0 v2 1) (cl v0 v2 2) (cl v0 v2 3) (cl v0 v2 4) (cl v0 v2 5) (cl v0 v2 6) (cl v0 v2 7) (cl v0 v2 8)) 0).toInt = 1) (
 cond ((sl (Md v20 (.bool v21) v7 v8 (.bool v9) v10 (.bool v11) v12 (.bool v13) v14 (.bool v15) (.int v16) (.int v22) v26 v23 v24 (.bool v25) (.bool v17) v18 (.bool v19) (.int v27) v31 v28 v29 (.bool v30) (.bool v6) (cl v0 v2 0) (cl v0 v2 1) (cl v0 v2 2) (cl v0 v2 3) (cl v0 v2 4) (cl v0 v2 5) (cl v0 v2 6) (cl v0 v2 7) (cl v0 v2 8)) 1).toBool) (
 .row [.int 1, (.int v2)]) (
 Ir v0 (.bool v1) (.int (IntKind.wrap .i64 (v2 + 1))) v3 v4 (.int v5) (.bool v6) v7 v8 (.bool v9) v10 (.bool v11) v12 (.bool v13) v14 (.bool v15) (.int v16) (.bool v17) v18 (.bool v19) v20 (.bool v21) (.int v22) v23 v24 (.bool v25) v26 (.int v27) v28 v29 (.bool v30) v31 v32)) (
 .row [])) (
 Ir v0 (.bool v1) (.int (IntKind.wrap .i64 (v2 + 1))) v3 v4 (.int v5) (.bool v6) v7 v8 (.bool v9) v10 (.bool v11) v12 (.bool v13) v14 (.bool v15) (.int v16) (.bool v17) v18 (.bool v19) v20 (.bool v21) (.int v22) v23 v24 (.bool v25) v26 (.int v27) v28 v29 (.bool v30) v31 v32)) (
 Ir v0 (.bool v1) (.int (IntKind.wrap .i64 (v2 + 1))) v3 v4 (.int v5) (.bool v6) v7 v8 (.bool v9) v10 (.bool v11) v12 (.bool v13) v14 (.bool v15) (.int v16) (.bool v17) v18 (.bool v19) v20 (.bool v21) (.int v22) v23 v24 (.bool v25) v26 (.int v27) v28 v29 (.bool v30) v31 v32)) (
 Ir v0 (.bool v1) (.int (IntKind.wrap .i64 (v2 + 1))) v3 v4 (.int v5) (.bool v6) v7 v8 (.bool v9) v10 (.bool v11) v12 (.bool v13) v14 (.bool v15) (.int v16) (.bool v17) v18 (.bool v19) v20 (.bool v21) (.int v22) v23 v24 (.bool v25) v26 (.int v27) v28 v29 (.bool v30) v31 v32)) (
 Ir v0 (.bool v1) (.int (IntKind.wrap .i64 (v2 + 1))) v3 v4 (.int v5) (.bool v6) v7 v8 (.bool v9) v10 (.bool v11) v12 (.bool v13) v14 (.bool v15) (.int v16) (.bool v17) v18 (.bool v19) v20 (.bool v21) (.int v22) v23 v24 (.bool v25) v26 (.int v27) v28 v29 (.bool v30) v31 v32))) (
 .row [.int 2]) := gw rfl rfl (cL (cL rfl (cg rfl (cQ (cg rfl (cg rfl (cQ rfl rfl) rfl) rfl) rfl) rfl)) rfl)
theorem M8 (v0 : D) (v1 : Bool) (v2 v3 : D) (v4 : Bool) (v5 : D) (v6 : Bool) (v7 : D) (v8 : Bool) (v9 : D) (v10 : Bool) (v11 v12 : Int) (v13 v14 v15 : D) (v16 v17 : Bool) (v18 : D) (v19 : Bool) (v20 : Int) (v21 v22 : D) {F0 F1 F2 F3 F4 F5 F6 : D} (h0 : Gi (.int v12) v13 v14 v15 (.bool v16) = F0) (h1 : JY (sl F0 1) (sl F0 5) (sl F0 2) (sl F0 3) (sl F0 4) (.int v20) = F1) (h2 : DU v7 (.bool v8) = F2) (h3 : K7 v21 v22 (.int (-1)) v0 (.bool v1) v2 v3 (.bool v4) v5 (.bool v6) v7 (.bool v8) v9 (.bool v10) (.int v11) (.int v12) v13 v14 v15 (.bool v16) (.bool v17) v18 (.bool v19) (sl F1 4) (sl F1 7) (sl F0 2) (sl F1 5) (sl F1 6) (.bool (decide (0 < (len (sl F1 1) : Int)))) (sl F2 1) (sl F2 2) v9 = F3) (h4 : K7 v21 v22 (.int (-1)) v0 (.bool v1) v2 v3 (.bool v4) v5 (.bool v6) v7 (.bool v8) v9 (.bool v10) (.int v11) (.int v12) v13 v14 v15 (.bool v16) (.bool v17) v18 (.bool v19) (sl F1 4) (sl F1 7) (sl F0 2) (sl F1 5) (sl F1 6) (.bool true) (sl F2 1) (sl F2 2) v9 = F4) (h5 : Ns v0 (.bool v1) v2 v3 (.bool v4) v5 (.bool v6) v7 (.bool v8) v9 (.bool v10) (.int v11) (.int v12) v13 v14 v15 (.bool v16) (.bool false) v18 (.bool v19) (sl F1 4) (sl F1 7) (sl F0 2) (sl F1 5) (sl F1 6) (.bool (decide (0 < (len (sl F1 1) : Int)))) (.int v20) (sl F3 1) = F5) (h6 : Ns v0 (.bool v1) v2 v3 (.bool v4) v5 (.bool v6) v7 (.bool v8) v9 (.bool v10) (.int v11) (.int v12) v13 v14 v15 (.bool v16) (.bool true) v18 (.bool v19) (sl F1 4) (sl F1 7) (sl F0 2) (sl F1 5) (sl F1 6) (.bool true) (.int v20) (sl F4 1) = F6) : MX v0 (.bool v1) v2 v3 (.bool v4) v5 (.bool v6) v7 (.bool v8) v9 (.bool v10) (.int v11) (.int v12) v13 v14 v15 (.bool v16) (.bool v17) v18 (.bool v19) (.int v20) v21 v22 =
  cond (v20 < v12) (
 .row [.int 1, (.int 0), (.int 3), v9, (.bool v10), (.int v11), (.bool v17), v18, (.bool v19), v0, (.bool v1), (.int v12), v14, v15, (.bool v16), v13]) (
 cond (1099511627776 < v20) (
 .row [.int 1, (.int 0), (.int 3), v9, (.bool v10), (.int v11), (.bool v17), v18, (.bool v19), v0, (.bool v1), (.int v12), v14, v15, (.bool v16), v13]) (
 cond ((sl F0 0).toInt = 1) (
 cond ((sl F1 0).toInt = 1) (
 cond (v17) (
 cond ((sl F2 0).toInt = 1) (
 cond ((sl F4 0).toInt = 1) (
 cond ((sl F4 1).toInt < 0) (
 .row [.int 1, (.int 0), (.int 9), v9, (.bool v10), (.int v11), (.bool true), v18, (.bool v19), v0, (.bool v1), (.int v12), v14, v15, (.bool v16), v13]) (
 cond ((sl F6 0).toInt = 1) (
 .row [.int 1, (sl F4 1), (.int 0), (sl F6 1), (sl F6 2), (sl F6 3), (.bool false), (sl F6 4), (sl F6 5), (sl F6 6), (sl F6 7), (sl F6 13), (sl F6 14), (sl F6 15), (sl F6 16), (sl F6 17)]) (
 .row []))) (
 cond ((sl F4 0).toInt = 2) (
 .row [.int 1, (.int 0), (.int 9), v9, (.bool v10), (.int v11), (.bool true), v18, (.bool v19), v0, (.bool v1), (.int v12), v14, v15, (.bool v16), v13]) (
 .row []))) (
 .row [])) (
 cond ((sl F2 0).toInt = 1) (
 cond ((sl F3 0).toInt = 1) (
 cond ((sl F3 1).toInt < 0) (
 .row [.int 1, (.int 0), (.int 9), v9, (.bool v10), (.int v11), (.bool false), v18, (.bool v19), v0, (.bool v1), (.int v12), v14, v15, (.bool v16), v13]) (
 cond ((sl F5 0).toInt = 1) (
 .row [.int 1, (sl F3 1), (.int 0), (sl F5 1), (sl F5 2), (sl F5 3), (.bool false), (sl F5 4), (sl F5 5), (sl F5 6), (sl F5 7), (sl F5 13), (sl F5 14), (sl F5 15), (sl F5 16), (sl F5 17)]) (
 .row []))) (
 cond ((sl F3 0).toInt = 2) (
 .row [.int 1, (.int 0), (.int 9), v9, (.bool v10), (.int v11), (.bool false), v18, (.bool v19), v0, (.bool v1), (.int v12), v14, v15, (.bool v16), v13]) (
 .row []))) (
 .row []))) (
 .row [])) (
 .row []))) := by
  subst h0; subst h1; subst h2; subst h3; subst h4; subst h5; subst h6; exact gw rfl rfl (cL rfl (cL rfl (cQ (cQ (cg rfl (cQ (cQ (cL rfl (cQ rfl rfl)) (cQ rfl rfl)) rfl) (cQ (cQ (cL rfl (cQ rfl rfl)) (cQ rfl rfl)) rfl)) rfl) rfl)))
theorem Pe (v0 v1 v2 v3 v4 : D) (v5 : Int) (v6 v7 : D) (v8 : Int) (v9 : D) (v10 : Int) (v11 v12 : D) : MN v0 v1 v2 v3 v4 (.int v5) v6 v7 (.int v8) v9 (.int v10) v11 v12 =
  cond (v10 < v8) (
 .row [.int 1, v0, v1, v2, v3, v4, (.int v5), v6, v7, (.int v8), v9, (.int 0), (.int 3)]) (
 cond (1099511627776 < v10) (
 .row [.int 1, v0, v1, v2, v3, v4, (.int v5), v6, v7, (.int v8), v9, (.int 0), (.int 3)]) (
 JQ (.int v10) v11 v12 (.int 0) v0 v1 v2 v3 v4 (.int v5) v6 v7 (.int v8) v9)) := gw rfl rfl (cL rfl (cL rfl rfl))
theorem Yt (v0 : Int) (v1 v2 : D) (v3 : Int) (v4 v5 v6 v7 v8 : D) (v9 : Int) (v10 v11 : D) (v12 : Int) (v13 : D) : JQ (.int v0) v1 v2 (.int v3) v4 v5 v6 v7 v8 (.int v9) v10 v11 (.int v12) v13 =
  cond (v3 < len v7) (
 cond (v3 < 0) (
 .row []) (
 cond ((cl v7 v3 2).toInt = 2) (
 cond (D.strEq (cl v7 v3 3) v1) (
 cond (D.strEq (cl v7 v3 4) v2) (
 cond ((sl (Hp v4 v5 v6 v7 v8 (.int v9) v10 v11 (.int v12) v13 (.int v0) (.int v3)) 0).toInt = 1) (
 cond ((sl (Hp v4 v5 v6 v7 v8 (.int v9) v10 v11 (.int v12) v13 (.int v0) (.int v3)) 1).toBool) (
 cond ((sl (Cw v4 v5 v6 v7 v8 (.int v9) v10 v11 (.int v12) v13 (.int v0) (.int v3)) 0).toInt = 1) (
 .row [.int 1, (sl (Cw v4 v5 v6 v7 v8 (.int v9) v10 v11 (.int v12) v13 (.int v0) (.int v3)) 1), (sl (Cw v4 v5 v6 v7 v8 (.int v9) v10 v11 (.int v12) v13 (.int v0) (.int v3)) 2), (sl (Cw v4 v5 v6 v7 v8 (.int v9) v10 v11 (.int v12) v13 (.int v0) (.int v3)) 3), (sl (Cw v4 v5 v6 v7 v8 (.int v9) v10 v11 (.int v12) v13 (.int v0) (.int v3)) 4), (sl (Cw v4 v5 v6 v7 v8 (.int v9) v10 v11 (.int v12) v13 (.int v0) (.int v3)) 5), (sl (Cw v4 v5 v6 v7 v8 (.int v9) v10 v11 (.int v12) v13 (.int v0) (.int v3)) 6), (sl (Cw v4 v5 v6 v7 v8 (.int v9) v10 v11 (.int v12) v13 (.int v0) (.int v3)) 7), (sl (Cw v4 v5 v6 v7 v8 (.int v9) v10 v11 (.int v12) v13 (.int v0) (.int v3)) 8), (sl (Cw v4 v5 v6 v7 v8 (.int v9) v10 v11 (.int v12) v13 (.int v0) (.int v3)) 9), (sl (Cw v4 v5 v6 v7 v8 (.int v9) v10 v11 (.int v12) v13 (.int v0) (.int v3)) 10), (.int v3), (.int 0)]) (
 .row [])) (
 JQ (.int v0) v1 v2 (.int (IntKind.wrap .i64 (v3 + 1))) v4 v5 v6 v7 v8 (.int v9) v10 v11 (.int v12) v13)) (
 .row [])) (
 JQ (.int v0) v1 v2 (.int (IntKind.wrap .i64 (v3 + 1))) v4 v5 v6 v7 v8 (.int v9) v10 v11 (.int v12) v13)) (
 JQ (.int v0) v1 v2 (.int (IntKind.wrap .i64 (v3 + 1))) v4 v5 v6 v7 v8 (.int v9) v10 v11 (.int v12) v13)) (
 JQ (.int v0) v1 v2 (.int (IntKind.wrap .i64 (v3 + 1))) v4 v5 v6 v7 v8 (.int v9) v10 v11 (.int v12) v13))) (
 .row [.int 1, v4, v5, v6, v7, v8, (.int v9), v10, v11, (.int v12), v13, (.int 0), (.int 9)]) := gw rfl rfl (cL (cL rfl (cQ (cg rfl (cg rfl (cQ (cg rfl (cQ rfl rfl) rfl) rfl) rfl) rfl) rfl)) rfl)
theorem YL (v0 : D) (v1 : Bool) : Fd v0 (.bool v1) =
  cond (v1) (
 .row [.int 1, Ar, (.bool true)]) (
 cond ((len v0 : Int) < 1048576) (
 .row [.int 1, (ct Ac v0), (.bool false)]) (
 .row [])) := gw rfl rfl (cg rfl rfl (cL rfl rfl))
theorem eM (v0 : D) (v1 : Bool) : O6 v0 (.bool v1) =
  cond ((sl (Fd v0 (.bool v1)) 0).toInt = 1) (
 .row [.int 1, (sl (Fd v0 (.bool v1)) 1), (sl (Fd v0 (.bool v1)) 2)]) (
 .row []) := gw rfl rfl (cQ rfl rfl)
theorem j8 (v0 : D) (v1 : Bool) (v2 v3 : D) (v4 : Bool) (v5 : D) (v6 : Bool) (v7 : D) (v8 : Bool) (v9 : D) (v10 : Bool) (v11 v12 : Int) (v13 v14 v15 : D) (v16 v17 : Bool) (v18 : D) (v19 : Bool) : Vf v0 (.bool v1) v2 v3 (.bool v4) v5 (.bool v6) v7 (.bool v8) v9 (.bool v10) (.int v11) (.int v12) v13 v14 v15 (.bool v16) (.bool v17) v18 (.bool v19) =
  cond ((sl (O6 v0 (.bool v1)) 0).toInt = 1) (
 cond ((sl (Gi (.int v12) v13 v14 v15 (.bool v16)) 0).toInt = 1) (
 cond ((sl (Ft v18 (.bool v19)) 0).toInt = 1) (
 .row [.int 1, v3, v5, v7, v2, (.bool v4), (.bool v6), (.bool v8), v9, (.bool v10), (.int v11), (.bool v17), (sl (Ft v18 (.bool v19)) 1), (sl (Ft v18 (.bool v19)) 2), (sl (O6 v0 (.bool v1)) 1), (sl (O6 v0 (.bool v1)) 2), (sl (Gi (.int v12) v13 v14 v15 (.bool v16)) 1), (sl (Gi (.int v12) v13 v14 v15 (.bool v16)) 2), (sl (Gi (.int v12) v13 v14 v15 (.bool v16)) 3), (sl (Gi (.int v12) v13 v14 v15 (.bool v16)) 4), (sl (Gi (.int v12) v13 v14 v15 (.bool v16)) 5)]) (
 .row [])) (
 .row [])) (
 .row []) := gw rfl rfl (cQ (cQ (cQ rfl rfl) rfl) rfl)
theorem IN (v0 : D) (v1 : Bool) (v2 v3 : D) (v4 : Bool) (v5 : D) (v6 : Bool) (v7 : D) (v8 : Bool) (v9 : D) (v10 : Bool) (v11 v12 : Int) (v13 v14 v15 : D) (v16 v17 : Bool) (v18 : D) (v19 : Bool) (v20 v21 v22 v23 v24 : D) (v25 : Int) (v26 v27 : D) (v28 : Int) (v29 : D) (v30 v31 v32 : Int) (v33 v34 : D) {F0 F1 F2 F3 F4 F5 F6 F7 F8 F9 F10 F11 F12 F13 F14 : D} (h0 : CJ v0 (.bool v1) v2 v3 (.bool v4) v5 (.bool v6) v7 (.bool v8) v9 (.bool v10) (.int v11) (.int v12) v13 v14 v15 (.bool v16) (.bool v17) v18 (.bool v19) (.int v31) (.int v32) = F0) (h1 : MX v0 (.bool v1) v2 v3 (.bool v4) v5 (.bool v6) v7 (.bool v8) v9 (.bool v10) (.int v11) (.int v12) v13 v14 v15 (.bool v16) (.bool v17) v18 (.bool v19) (.int v31) v33 v34 = F1) (h2 : P3 v0 (.bool v1) v2 v3 (.bool v4) v5 (.bool v6) v7 (.bool v8) v9 (.bool v10) (.int v11) (.int v12) v13 v14 v15 (.bool v16) (.bool v17) v18 (.bool v19) (.int v31) = F2) (h3 : Cw v20 v21 v22 v23 v24 (.int v25) v26 v27 (.int v28) v29 (.int v31) (.int v32) = F3) (h4 : MN v20 v21 v22 v23 v24 (.int v25) v26 v27 (.int v28) v29 (.int v31) v33 v34 = F4) (h5 : R7 v20 v21 v22 v23 v24 (.int v25) v26 v27 (.int v28) v29 (.int v31) = F5) (h6 : Vf v0 (.bool v1) v2 v3 (.bool v4) v5 (.bool v6) v7 (.bool v8) v9 (.bool v10) (.int v11) (.int v12) v13 v14 v15 (.bool v16) (.bool v17) v18 (.bool v19) = F6) (h7 : KO v20 v21 v22 v23 v24 (.int v25) v26 v27 (.int v28) v29 = F7) (h8 : CJ v0 (.bool v1) v2 v3 (.bool v4) v5 (.bool v6) v7 (.bool v8) v9 (.bool v10) (.int v11) (.int v12) v13 v14 v15 (.bool v16) (.bool v17) v18 (.bool v19) (sl F7 1) (.int v32) = F8) (h9 : Cw v20 v21 v22 v23 v24 (.int v25) v26 v27 (.int v28) v29 (sl F7 1) (.int v32) = F9) (h10 : Ex (sl F0 8) (sl F0 9) v2 v3 (.bool v4) v5 (.bool v6) v7 (.bool v8) (sl F0 2) (sl F0 3) (sl F0 4) (sl F0 10) (sl F0 14) (sl F0 11) (sl F0 12) (sl F0 13) (sl F0 5) (sl F0 6) (sl F0 7) (sl F3 1) (sl F3 2) (sl F3 3) (sl F3 4) (sl F3 5) (sl F3 6) (sl F3 7) (sl F3 8) (sl F3 9) (sl F3 10) = F10) (h11 : P3 v0 (.bool v1) v2 (sl F6 1) (.bool v4) (sl F6 2) (.bool v6) (sl F6 3) (.bool v8) v9 (.bool v10) (.int v11) (.int v12) v13 v14 v15 (.bool v16) (.bool v17) v18 (.bool v19) (.int 1099511627776) = F11) (h12 : Ex (sl F1 9) (sl F1 10) v2 v3 (.bool v4) v5 (.bool v6) v7 (.bool v8) (sl F1 3) (sl F1 4) (sl F1 5) (sl F1 11) (sl F1 15) (sl F1 12) (sl F1 13) (sl F1 14) (sl F1 6) (sl F1 7) (sl F1 8) (sl F4 1) (sl F4 2) (sl F4 3) (sl F4 4) (sl F4 5) (sl F4 6) (sl F4 7) (sl F4 8) (sl F4 9) (sl F4 10) = F12) (h13 : Ex v0 (.bool v1) v2 v3 (.bool v4) v5 (.bool v6) v7 (.bool v8) v9 (.bool v10) (.int v11) (sl F2 5) (sl F2 9) (sl F2 6) (sl F2 7) (sl F2 8) (sl F2 4) v18 (.bool v19) (sl F5 1) (sl F5 2) (sl F5 3) (sl F5 4) (sl F5 5) (sl F5 6) (sl F5 7) (sl F5 8) (sl F5 9) (sl F5 10) = F13) (h14 : Ex (sl F8 8) (sl F8 9) v2 v3 (.bool v4) v5 (.bool v6) v7 (.bool v8) (sl F8 2) (sl F8 3) (sl F8 4) (sl F8 10) (sl F8 14) (sl F8 11) (sl F8 12) (sl F8 13) (sl F8 5) (sl F8 6) (sl F8 7) (sl F9 1) (sl F9 2) (sl F9 3) (sl F9 4) (sl F9 5) (sl F9 6) (sl F9 7) (sl F9 8) (sl F9 9) (sl F9 10) = F14) : Wj v0 (.bool v1) v2 v3 (.bool v4) v5 (.bool v6) v7 (.bool v8) v9 (.bool v10) (.int v11) (.int v12) v13 v14 v15 (.bool v16) (.bool v17) v18 (.bool v19) v20 v21 v22 v23 v24 (.int v25) v26 v27 (.int v28) v29 (.int v30) (.int v31) (.int v32) v33 v34 =
  cond (v30 = 0) (
 cond ((sl F2 0).toInt = 1) (
 cond ((sl F5 0).toInt = 1) (
 cond ((sl (JL (sl F2 1) (sl F2 2) (sl F5 11) (sl F5 12)) 0).toInt = 1) (
 cond ((sl (JL (sl F2 1) (sl F2 2) (sl F5 11) (sl F5 12)) 1).toBool) (
 cond ((sl F2 3).toInt = (sl F5 13).toInt) (
 cond ((sl F13 0).toInt = 1) (
 .row [.int 1, (sl F5 1), (sl F5 2), (sl F5 3), (sl F5 4), (sl F5 5), (sl F5 6), (sl F5 7), (sl F5 8), (sl F5 9), (sl F5 10), (sl F13 1), v3, v5, v7, (sl F2 5), (sl F2 6), (sl F2 7), (sl F2 8), (sl F2 9), v18, v2, (.bool v4), (.bool v6), (.bool v8), v9, (.bool v10), (.int v11), (sl F2 4), (.bool v19), v0, (.bool v1)]) (
 .row [])) (
 .row [.int 1, (sl F5 1), (sl F5 2), (sl F5 3), (sl F5 4), (sl F5 5), (sl F5 6), (sl F5 7), (sl F5 8), (sl F5 9), (sl F5 10), (.bool false), v3, v5, v7, (sl F2 5), (sl F2 6), (sl F2 7), (sl F2 8), (sl F2 9), v18, v2, (.bool v4), (.bool v6), (.bool v8), v9, (.bool v10), (.int v11), (sl F2 4), (.bool v19), v0, (.bool v1)])) (
 .row [.int 1, (sl F5 1), (sl F5 2), (sl F5 3), (sl F5 4), (sl F5 5), (sl F5 6), (sl F5 7), (sl F5 8), (sl F5 9), (sl F5 10), (.bool false), v3, v5, v7, (sl F2 5), (sl F2 6), (sl F2 7), (sl F2 8), (sl F2 9), v18, v2, (.bool v4), (.bool v6), (.bool v8), v9, (.bool v10), (.int v11), (sl F2 4), (.bool v19), v0, (.bool v1)])) (
 .row [])) (
 .row [])) (
 .row [])) (
 cond (v30 = 1) (
 cond ((sl F2 0).toInt = 1) (
 cond ((sl F5 0).toInt = 1) (
 cond ((sl (JL (sl F2 1) (sl F2 2) (sl F5 11) (sl F5 12)) 0).toInt = 1) (
 cond ((sl (JL (sl F2 1) (sl F2 2) (sl F5 11) (sl F5 12)) 1).toBool) (
 cond ((sl F2 3).toInt = (sl F5 13).toInt) (
 cond ((sl F13 0).toInt = 1) (
 .row [.int 1, (sl F5 1), (sl F5 2), (sl F5 3), (sl F5 4), (sl F5 5), (sl F5 6), (sl F5 7), (sl F5 8), (sl F5 9), (sl F5 10), (sl F13 1), v3, v5, v7, (sl F2 5), (sl F2 6), (sl F2 7), (sl F2 8), (sl F2 9), v18, v2, (.bool v4), (.bool v6), (.bool v8), v9, (.bool v10), (.int v11), (sl F2 4), (.bool v19), v0, (.bool v1)]) (
 .row [])) (
 .row [.int 1, (sl F5 1), (sl F5 2), (sl F5 3), (sl F5 4), (sl F5 5), (sl F5 6), (sl F5 7), (sl F5 8), (sl F5 9), (sl F5 10), (.bool false), v3, v5, v7, (sl F2 5), (sl F2 6), (sl F2 7), (sl F2 8), (sl F2 9), v18, v2, (.bool v4), (.bool v6), (.bool v8), v9, (.bool v10), (.int v11), (sl F2 4), (.bool v19), v0, (.bool v1)])) (
 .row [.int 1, (sl F5 1), (sl F5 2), (sl F5 3), (sl F5 4), (sl F5 5), (sl F5 6), (sl F5 7), (sl F5 8), (sl F5 9), (sl F5 10), (.bool false), v3, v5, v7, (sl F2 5), (sl F2 6), (sl F2 7), (sl F2 8), (sl F2 9), v18, v2, (.bool v4), (.bool v6), (.bool v8), v9, (.bool v10), (.int v11), (sl F2 4), (.bool v19), v0, (.bool v1)])) (
 .row [])) (
 .row [])) (
 .row [])) (
 cond (v30 = 2) (
 cond ((sl F0 0).toInt = 1) (
 cond ((sl F3 0).toInt = 1) (
 cond ((sl F0 1).toInt = (sl F3 11).toInt) (
 cond ((sl F10 0).toInt = 1) (
 .row [.int 1, (sl F3 1), (sl F3 2), (sl F3 3), (sl F3 4), (sl F3 5), (sl F3 6), (sl F3 7), (sl F3 8), (sl F3 9), (sl F3 10), (sl F10 1), v3, v5, v7, (sl F0 10), (sl F0 11), (sl F0 12), (sl F0 13), (sl F0 14), (sl F0 6), v2, (.bool v4), (.bool v6), (.bool v8), (sl F0 2), (sl F0 3), (sl F0 4), (sl F0 5), (sl F0 7), (sl F0 8), (sl F0 9)]) (
 .row [])) (
 .row [.int 1, (sl F3 1), (sl F3 2), (sl F3 3), (sl F3 4), (sl F3 5), (sl F3 6), (sl F3 7), (sl F3 8), (sl F3 9), (sl F3 10), (.bool false), v3, v5, v7, (sl F0 10), (sl F0 11), (sl F0 12), (sl F0 13), (sl F0 14), (sl F0 6), v2, (.bool v4), (.bool v6), (.bool v8), (sl F0 2), (sl F0 3), (sl F0 4), (sl F0 5), (sl F0 7), (sl F0 8), (sl F0 9)])) (
 .row [])) (
 .row [])) (
 cond (v30 = 3) (
 cond ((sl F0 0).toInt = 1) (
 cond ((sl F3 0).toInt = 1) (
 cond ((sl F0 1).toInt = (sl F3 11).toInt) (
 cond ((sl F10 0).toInt = 1) (
 .row [.int 1, (sl F3 1), (sl F3 2), (sl F3 3), (sl F3 4), (sl F3 5), (sl F3 6), (sl F3 7), (sl F3 8), (sl F3 9), (sl F3 10), (sl F10 1), v3, v5, v7, (sl F0 10), (sl F0 11), (sl F0 12), (sl F0 13), (sl F0 14), (sl F0 6), v2, (.bool v4), (.bool v6), (.bool v8), (sl F0 2), (sl F0 3), (sl F0 4), (sl F0 5), (sl F0 7), (sl F0 8), (sl F0 9)]) (
 .row [])) (
 .row [.int 1, (sl F3 1), (sl F3 2), (sl F3 3), (sl F3 4), (sl F3 5), (sl F3 6), (sl F3 7), (sl F3 8), (sl F3 9), (sl F3 10), (.bool false), v3, v5, v7, (sl F0 10), (sl F0 11), (sl F0 12), (sl F0 13), (sl F0 14), (sl F0 6), v2, (.bool v4), (.bool v6), (.bool v8), (sl F0 2), (sl F0 3), (sl F0 4), (sl F0 5), (sl F0 7), (sl F0 8), (sl F0 9)])) (
 .row [])) (
 .row [])) (
 cond (v30 = 4) (
 cond ((sl F0 0).toInt = 1) (
 cond ((sl F3 0).toInt = 1) (
 cond ((sl F0 1).toInt = (sl F3 11).toInt) (
 cond ((sl F10 0).toInt = 1) (
 .row [.int 1, (sl F3 1), (sl F3 2), (sl F3 3), (sl F3 4), (sl F3 5), (sl F3 6), (sl F3 7), (sl F3 8), (sl F3 9), (sl F3 10), (sl F10 1), v3, v5, v7, (sl F0 10), (sl F0 11), (sl F0 12), (sl F0 13), (sl F0 14), (sl F0 6), v2, (.bool v4), (.bool v6), (.bool v8), (sl F0 2), (sl F0 3), (sl F0 4), (sl F0 5), (sl F0 7), (sl F0 8), (sl F0 9)]) (
 .row [])) (
 .row [.int 1, (sl F3 1), (sl F3 2), (sl F3 3), (sl F3 4), (sl F3 5), (sl F3 6), (sl F3 7), (sl F3 8), (sl F3 9), (sl F3 10), (.bool false), v3, v5, v7, (sl F0 10), (sl F0 11), (sl F0 12), (sl F0 13), (sl F0 14), (sl F0 6), v2, (.bool v4), (.bool v6), (.bool v8), (sl F0 2), (sl F0 3), (sl F0 4), (sl F0 5), (sl F0 7), (sl F0 8), (sl F0 9)])) (
 .row [])) (
 .row [])) (
 cond (v30 = 5) (
 cond ((sl F1 0).toInt = 1) (
 cond ((sl F4 0).toInt = 1) (
 cond ((sl F1 1).toInt = (sl F4 11).toInt) (
 cond ((sl F1 2).toInt = (sl F4 12).toInt) (
 cond ((sl F12 0).toInt = 1) (
 .row [.int 1, (sl F4 1), (sl F4 2), (sl F4 3), (sl F4 4), (sl F4 5), (sl F4 6), (sl F4 7), (sl F4 8), (sl F4 9), (sl F4 10), (sl F12 1), v3, v5, v7, (sl F1 11), (sl F1 12), (sl F1 13), (sl F1 14), (sl F1 15), (sl F1 7), v2, (.bool v4), (.bool v6), (.bool v8), (sl F1 3), (sl F1 4), (sl F1 5), (sl F1 6), (sl F1 8), (sl F1 9), (sl F1 10)]) (
 .row [])) (
 .row [.int 1, (sl F4 1), (sl F4 2), (sl F4 3), (sl F4 4), (sl F4 5), (sl F4 6), (sl F4 7), (sl F4 8), (sl F4 9), (sl F4 10), (.bool false), v3, v5, v7, (sl F1 11), (sl F1 12), (sl F1 13), (sl F1 14), (sl F1 15), (sl F1 7), v2, (.bool v4), (.bool v6), (.bool v8), (sl F1 3), (sl F1 4), (sl F1 5), (sl F1 6), (sl F1 8), (sl F1 9), (sl F1 10)])) (
 .row [.int 1, (sl F4 1), (sl F4 2), (sl F4 3), (sl F4 4), (sl F4 5), (sl F4 6), (sl F4 7), (sl F4 8), (sl F4 9), (sl F4 10), (.bool false), v3, v5, v7, (sl F1 11), (sl F1 12), (sl F1 13), (sl F1 14), (sl F1 15), (sl F1 7), v2, (.bool v4), (.bool v6), (.bool v8), (sl F1 3), (sl F1 4), (sl F1 5), (sl F1 6), (sl F1 8), (sl F1 9), (sl F1 10)])) (
 .row [])) (
 .row [])) (
 cond (v30 = 6) (
 cond ((sl F1 0).toInt = 1) (
 cond ((sl F4 0).toInt = 1) (
 cond ((sl F1 1).toInt = (sl F4 11).toInt) (
 cond ((sl F1 2).toInt = (sl F4 12).toInt) (
 cond ((sl F12 0).toInt = 1) (
 .row [.int 1, (sl F4 1), (sl F4 2), (sl F4 3), (sl F4 4), (sl F4 5), (sl F4 6), (sl F4 7), (sl F4 8), (sl F4 9), (sl F4 10), (sl F12 1), v3, v5, v7, (sl F1 11), (sl F1 12), (sl F1 13), (sl F1 14), (sl F1 15), (sl F1 7), v2, (.bool v4), (.bool v6), (.bool v8), (sl F1 3), (sl F1 4), (sl F1 5), (sl F1 6), (sl F1 8), (sl F1 9), (sl F1 10)]) (
 .row [])) (
 .row [.int 1, (sl F4 1), (sl F4 2), (sl F4 3), (sl F4 4), (sl F4 5), (sl F4 6), (sl F4 7), (sl F4 8), (sl F4 9), (sl F4 10), (.bool false), v3, v5, v7, (sl F1 11), (sl F1 12), (sl F1 13), (sl F1 14), (sl F1 15), (sl F1 7), v2, (.bool v4), (.bool v6), (.bool v8), (sl F1 3), (sl F1 4), (sl F1 5), (sl F1 6), (sl F1 8), (sl F1 9), (sl F1 10)])) (
 .row [.int 1, (sl F4 1), (sl F4 2), (sl F4 3), (sl F4 4), (sl F4 5), (sl F4 6), (sl F4 7), (sl F4 8), (sl F4 9), (sl F4 10), (.bool false), v3, v5, v7, (sl F1 11), (sl F1 12), (sl F1 13), (sl F1 14), (sl F1 15), (sl F1 7), v2, (.bool v4), (.bool v6), (.bool v8), (sl F1 3), (sl F1 4), (sl F1 5), (sl F1 6), (sl F1 8), (sl F1 9), (sl F1 10)])) (
 .row [])) (
 .row [])) (
 cond (v30 = 7) (
 cond ((sl F6 0).toInt = 1) (
 cond ((len (sl F6 2) : Int) = (len v5 : Int)) (
 cond ((len (sl F6 1) : Int) = (len v3 : Int)) (
 cond ((len (sl F6 3) : Int) = (len v7 : Int)) (
 cond ((sl F11 0).toInt = 1) (
 RT (.int 0) v2 (sl F6 1) (.bool v4) (sl F6 2) (.bool v6) (sl F6 3) (.bool v8) v9 (.bool v10) (.int v11) (sl F11 4) v18 (.bool v19) v0 (.bool v1) v20 v21 v22 v23 v24 (.int v25) v26 v27 (.int v28) v29 (sl F6 4) (sl F6 5) (sl F6 6) (sl F6 7) (sl F6 8) (sl F6 9) (sl F6 10) (sl F6 11) (sl F6 12) (sl F6 13) (sl F6 14) (sl F6 15) (sl F6 16) (sl F6 17) (sl F6 18) (sl F6 19) (sl F6 20) (sl F11 5) (sl F11 6) (sl F11 7) (sl F11 8) (sl F11 9)) (
 .row [])) (
 .row [])) (
 .row [])) (
 .row [])) (
 .row [])) (
 cond ((sl F7 0).toInt = 1) (
 cond ((sl F8 0).toInt = 1) (
 cond ((sl F9 0).toInt = 1) (
 cond ((sl F8 1).toInt = (sl F9 11).toInt) (
 cond ((sl F14 0).toInt = 1) (
 .row [.int 1, (sl F9 1), (sl F9 2), (sl F9 3), (sl F9 4), (sl F9 5), (sl F9 6), (sl F9 7), (sl F9 8), (sl F9 9), (sl F9 10), (sl F14 1), v3, v5, v7, (sl F8 10), (sl F8 11), (sl F8 12), (sl F8 13), (sl F8 14), (sl F8 6), v2, (.bool v4), (.bool v6), (.bool v8), (sl F8 2), (sl F8 3), (sl F8 4), (sl F8 5), (sl F8 7), (sl F8 8), (sl F8 9)]) (
 .row [])) (
 .row [.int 1, (sl F9 1), (sl F9 2), (sl F9 3), (sl F9 4), (sl F9 5), (sl F9 6), (sl F9 7), (sl F9 8), (sl F9 9), (sl F9 10), (.bool false), v3, v5, v7, (sl F8 10), (sl F8 11), (sl F8 12), (sl F8 13), (sl F8 14), (sl F8 6), v2, (.bool v4), (.bool v6), (.bool v8), (sl F8 2), (sl F8 3), (sl F8 4), (sl F8 5), (sl F8 7), (sl F8 8), (sl F8 9)])) (
 .row [])) (
 .row [])) (
 .row []))))))))) := by
  subst h0; subst h1; subst h2; subst h3; subst h4; subst h5; subst h6; subst h7; subst h8; subst h9; subst h10; subst h11; subst h12; subst h13; subst h14; exact gw rfl rfl (cQ (cQ (cQ (cQ (cg rfl (cQ (cQ rfl rfl) rfl) rfl) rfl) rfl) rfl) (cQ (cQ (cQ (cQ (cg rfl (cQ (cQ rfl rfl) rfl) rfl) rfl) rfl) rfl) (cQ (cQ (cQ (cQ (cQ rfl rfl) rfl) rfl) rfl) (cQ (cQ (cQ (cQ (cQ rfl rfl) rfl) rfl) rfl) (cQ (cQ (cQ (cQ (cQ rfl rfl) rfl) rfl) rfl) (cQ (cQ (cQ (cQ (cQ (cQ rfl rfl) rfl) rfl) rfl) rfl) (cQ (cQ (cQ (cQ (cQ (cQ rfl rfl) rfl) rfl) rfl) rfl) (cQ (cQ (cQ (cQ (cQ (cQ rfl rfl) rfl) rfl) rfl) rfl) (cQ (cQ (cQ (cQ (cQ rfl rfl) rfl) rfl) rfl) rfl)))))))))
theorem YM (v0 : Int) (v1 v2 : D) (v3 : Bool) (v4 : D) (v5 : Bool) (v6 : D) (v7 : Bool) (v8 : D) (v9 : Bool) (v10 : Int) (v11 : Bool) (v12 : D) (v13 : Bool) (v14 : D) (v15 : Bool) (v16 v17 v18 v19 v20 : D) (v21 : Int) (v22 v23 : D) (v24 : Int) (v25 v26 : D) (v27 v28 v29 : Bool) (v30 : D) (v31 : Bool) (v32 : Int) (v33 : Bool) (v34 : D) (v35 : Bool) (v36 : D) (v37 : Bool) (v38 : Int) (v39 v40 : D) (v41 : Bool) (v42 : D) (v43 : Int) (v44 v45 : D) (v46 : Bool) (v47 : D) : RT (.int v0) v1 v2 (.bool v3) v4 (.bool v5) v6 (.bool v7) v8 (.bool v9) (.int v10) (.bool v11) v12 (.bool v13) v14 (.bool v15) v16 v17 v18 v19 v20 (.int v21) v22 v23 (.int v24) v25 v26 (.bool v27) (.bool v28) (.bool v29) v30 (.bool v31) (.int v32) (.bool v33) v34 (.bool v35) v36 (.bool v37) (.int v38) v39 v40 (.bool v41) v42 (.int v43) v44 v45 (.bool v46) v47 =
  cond (v0 < len v19) (
 cond ((sl (CJ v14 (.bool v15) v1 v2 (.bool v3) v4 (.bool v5) v6 (.bool v7) v8 (.bool v9) (.int v10) (.int v43) v47 v44 v45 (.bool v46) (.bool v11) v12 (.bool v13) (.int 1099511627776) (.int v0)) 0).toInt = 1) (
 RT (.int (IntKind.wrap .i64 (v0 + 1))) v1 v2 (.bool v3) v4 (.bool v5) v6 (.bool v7) (sl (CJ v14 (.bool v15) v1 v2 (.bool v3) v4 (.bool v5) v6 (.bool v7) v8 (.bool v9) (.int v10) (.int v43) v47 v44 v45 (.bool v46) (.bool v11) v12 (.bool v13) (.int 1099511627776) (.int v0)) 2) (sl (CJ v14 (.bool v15) v1 v2 (.bool v3) v4 (.bool v5) v6 (.bool v7) v8 (.bool v9) (.int v10) (.int v43) v47 v44 v45 (.bool v46) (.bool v11) v12 (.bool v13) (.int 1099511627776) (.int v0)) 3) (sl (CJ v14 (.bool v15) v1 v2 (.bool v3) v4 (.bool v5) v6 (.bool v7) v8 (.bool v9) (.int v10) (.int v43) v47 v44 v45 (.bool v46) (.bool v11) v12 (.bool v13) (.int 1099511627776) (.int v0)) 4) (sl (CJ v14 (.bool v15) v1 v2 (.bool v3) v4 (.bool v5) v6 (.bool v7) v8 (.bool v9) (.int v10) (.int v43) v47 v44 v45 (.bool v46) (.bool v11) v12 (.bool v13) (.int 1099511627776) (.int v0)) 5) (sl (CJ v14 (.bool v15) v1 v2 (.bool v3) v4 (.bool v5) v6 (.bool v7) v8 (.bool v9) (.int v10) (.int v43) v47 v44 v45 (.bool v46) (.bool v11) v12 (.bool v13) (.int 1099511627776) (.int v0)) 6) (sl (CJ v14 (.bool v15) v1 v2 (.bool v3) v4 (.bool v5) v6 (.bool v7) v8 (.bool v9) (.int v10) (.int v43) v47 v44 v45 (.bool v46) (.bool v11) v12 (.bool v13) (.int 1099511627776) (.int v0)) 7) (sl (CJ v14 (.bool v15) v1 v2 (.bool v3) v4 (.bool v5) v6 (.bool v7) v8 (.bool v9) (.int v10) (.int v43) v47 v44 v45 (.bool v46) (.bool v11) v12 (.bool v13) (.int 1099511627776) (.int v0)) 8) (sl (CJ v14 (.bool v15) v1 v2 (.bool v3) v4 (.bool v5) v6 (.bool v7) v8 (.bool v9) (.int v10) (.int v43) v47 v44 v45 (.bool v46) (.bool v11) v12 (.bool v13) (.int 1099511627776) (.int v0)) 9) v16 v17 v18 v19 v20 (.int v21) v22 v23 (.int v24) v25 v26 (.bool v27) (.bool v28) (.bool v29) v30 (.bool v31) (.int v32) (.bool v33) v34 (.bool v35) v36 (.bool v37) (.int v38) v39 v40 (.bool v41) v42 (sl (CJ v14 (.bool v15) v1 v2 (.bool v3) v4 (.bool v5) v6 (.bool v7) v8 (.bool v9) (.int v10) (.int v43) v47 v44 v45 (.bool v46) (.bool v11) v12 (.bool v13) (.int 1099511627776) (.int v0)) 10) (sl (CJ v14 (.bool v15) v1 v2 (.bool v3) v4 (.bool v5) v6 (.bool v7) v8 (.bool v9) (.int v10) (.int v43) v47 v44 v45 (.bool v46) (.bool v11) v12 (.bool v13) (.int 1099511627776) (.int v0)) 11) (sl (CJ v14 (.bool v15) v1 v2 (.bool v3) v4 (.bool v5) v6 (.bool v7) v8 (.bool v9) (.int v10) (.int v43) v47 v44 v45 (.bool v46) (.bool v11) v12 (.bool v13) (.int 1099511627776) (.int v0)) 12) (sl (CJ v14 (.bool v15) v1 v2 (.bool v3) v4 (.bool v5) v6 (.bool v7) v8 (.bool v9) (.int v10) (.int v43) v47 v44 v45 (.bool v46) (.bool v11) v12 (.bool v13) (.int 1099511627776) (.int v0)) 13) (sl (CJ v14 (.bool v15) v1 v2 (.bool v3) v4 (.bool v5) v6 (.bool v7) v8 (.bool v9) (.int v10) (.int v43) v47 v44 v45 (.bool v46) (.bool v11) v12 (.bool v13) (.int 1099511627776) (.int v0)) 14)) (
 .row [])) (
 cond ((sl (Ex v36 (.bool v37) v26 v2 (.bool v27) v4 (.bool v28) v6 (.bool v29) v30 (.bool v31) (.int v32) (.int v38) v42 v39 v40 (.bool v41) (.bool v33) v34 (.bool v35) v16 v17 v18 v19 v20 (.int v21) v22 v23 (.int v24) v25) 0).toInt = 1) (
 .row [.int 1, v16, v17, v18, v19, v20, (.int v21), v22, v23, (.int v24), v25, (sl (Ex v36 (.bool v37) v26 v2 (.bool v27) v4 (.bool v28) v6 (.bool v29) v30 (.bool v31) (.int v32) (.int v38) v42 v39 v40 (.bool v41) (.bool v33) v34 (.bool v35) v16 v17 v18 v19 v20 (.int v21) v22 v23 (.int v24) v25) 1), v2, v4, v6, (.int v38), v39, v40, (.bool v41), v42, v34, v26, (.bool v27), (.bool v28), (.bool v29), v30, (.bool v31), (.int v32), (.bool v33), (.bool v35), v36, (.bool v37)]) (
 .row [])) := gw rfl rfl (cL (cQ rfl rfl) (cQ rfl rfl))
theorem l8 (v0 : D) (v1 : Bool) (v2 : D) (v3 : Bool) : OT v0 (.bool v1) v2 (.bool v3) =
 SX v2 (.bool v3) (.int 0) v0 (.bool v1) := gw rfl rfl rfl
theorem Za (v0 : D) (v1 : Bool) (v2 : Int) (v3 : D) (v4 : Bool) : SX v0 (.bool v1) (.int v2) v3 (.bool v4) =
  cond (v2 < len v0) (
 cond (v2 < 0) (
 .row []) (
 cond ((len v3 : Int) < 1073741824) (
 SX v0 (.bool v1) (.int (IntKind.wrap .i64 (v2 + 1))) (ad v3 (.row [(cl v0 v2 2)])) (.bool false)) (
 .row []))) (
 .row [.int 1, v3, (.bool v4)]) := gw rfl rfl (cL (cL rfl (cL rfl rfl)) rfl)
theorem kH (v0 : D) (v1 : Bool) : Qg v0 (.bool v1) =
  cond ((sl (Fd v0 (.bool v1)) 0).toInt = 1) (
 cond ((sl (OT Ar (.bool true) (sl (Fd v0 (.bool v1)) 1) (sl (Fd v0 (.bool v1)) 2)) 0).toInt = 1) (
 .row [.int 1, (sl (OT Ar (.bool true) (sl (Fd v0 (.bool v1)) 1) (sl (Fd v0 (.bool v1)) 2)) 1), (sl (OT Ar (.bool true) (sl (Fd v0 (.bool v1)) 1) (sl (Fd v0 (.bool v1)) 2)) 2)]) (
 .row [])) (
 .row []) := gw rfl rfl (cQ (cQ rfl rfl) rfl)
theorem jt (v0 : D) (v1 : Bool) (v2 v3 : D) (v4 : Bool) (v5 : D) (v6 : Bool) (v7 : D) (v8 : Bool) (v9 : D) (v10 : Bool) (v11 v12 : Int) (v13 v14 v15 : D) (v16 v17 : Bool) (v18 : D) (v19 : Bool) : Su v0 (.bool v1) v2 v3 (.bool v4) v5 (.bool v6) v7 (.bool v8) v9 (.bool v10) (.int v11) (.int v12) v13 v14 v15 (.bool v16) (.bool v17) v18 (.bool v19) =
  cond ((sl (Qg v0 (.bool v1)) 0).toInt = 1) (
 .row [.int 1, v9, (sl (Qg v0 (.bool v1)) 1), (sl (Qg v0 (.bool v1)) 2)]) (
 .row []) := gw rfl rfl (cQ rfl rfl)
theorem cK (v0 v1 v2 v3 v4 v5 : D) (v6 : Int) (v7 : D) : Zd v0 v1 v2 v3 v4 v5 (.int v6) v7 =
  cond ((sl (UE v0 v1 v2 v3) 0).toInt = 1) (
 cond ((sl (UE v0 v1 v2 v3) 1).toBool) (
 cond ((sl (I2) 0).toInt = 1) (
 .row [.int 1, (.bool true)]) (
 .row [])) (
 cond (60 < (len v7 : Int)) (
 cond ((sl (I2) 0).toInt = 1) (
 .row [.int 1, (.bool true)]) (
 .row [])) (
 cond (10 < (len v5 : Int)) (
 cond ((sl (I2) 0).toInt = 1) (
 .row [.int 1, (.bool true)]) (
 .row [])) (
 cond (60 < (A5 v4 : Int)) (
 cond ((sl (I2) 0).toInt = 1) (
 .row [.int 1, (.bool true)]) (
 .row [])) (
 cond ((sl (Ap v0 v1 v2 v3 v4 (ct Ac v5) (.bool (false && decide ((len v5 : Int) = 0))) (.int v6)) 0).toInt = 1) (
 cond ((sl (Az v0 v1 v2 v3 v4 v5 (.int v6)) 0).toInt = 1) (
 cond (2 = (sl (Az v0 v1 v2 v3 v4 v5 (.int v6)) 10).toInt) (
 cond ((sl (Az v0 v1 v2 v3 v4 v5 (.int v6)) 10).toInt = 0) (
 .row [.int 1, (.bool false)]) (
 cond ((sl (Ez (ct Ac v5) (.bool (false && decide ((len v5 : Int) = 0))) v5) 0).toInt = 1) (
 cond ((sl (Ez (ct Ac v5) (.bool (false && decide ((len v5 : Int) = 0))) v5) 1).toBool) (
 cond ((sl (I2) 0).toInt = 1) (
 .row [.int 1, (.bool true)]) (
 .row [])) (
 .row [.int 1, (.bool false)])) (
 .row []))) (
 .row [.int 1, (.bool false)])) (
 .row [])) (
 cond ((sl (Ap v0 v1 v2 v3 v4 (ct Ac v5) (.bool (false && decide ((len v5 : Int) = 0))) (.int v6)) 0).toInt = 2) (
 cond ((sl (Az v0 v1 v2 v3 v4 v5 (.int v6)) 0).toInt = 1) (
 cond (0 = (sl (Az v0 v1 v2 v3 v4 v5 (.int v6)) 10).toInt) (
 cond ((sl (Az v0 v1 v2 v3 v4 v5 (.int v6)) 10).toInt = 0) (
 cond ((sl (Ez (ct Ac v5) (.bool (false && decide ((len v5 : Int) = 0))) v5) 0).toInt = 1) (
 cond ((sl (Ez (ct Ac v5) (.bool (false && decide ((len v5 : Int) = 0))) v5) 1).toBool) (
 cond ((sl (Ex (sl (Ap v0 v1 v2 v3 v4 (ct Ac v5) (.bool (false && decide ((len v5 : Int) = 0))) (.int v6)) 12) (sl (Ap v0 v1 v2 v3 v4 (ct Ac v5) (.bool (false && decide ((len v5 : Int) = 0))) (.int v6)) 13) (sl (Ap v0 v1 v2 v3 v4 (ct Ac v5) (.bool (false && decide ((len v5 : Int) = 0))) (.int v6)) 1) (sl (Ap v0 v1 v2 v3 v4 (ct Ac v5) (.bool (false && decide ((len v5 : Int) = 0))) (.int v6)) 2) (sl (Ap v0 v1 v2 v3 v4 (ct Ac v5) (.bool (false && decide ((len v5 : Int) = 0))) (.int v6)) 3) (sl (Ap v0 v1 v2 v3 v4 (ct Ac v5) (.bool (false && decide ((len v5 : Int) = 0))) (.int v6)) 4) (sl (Ap v0 v1 v2 v3 v4 (ct Ac v5) (.bool (false && decide ((len v5 : Int) = 0))) (.int v6)) 5) (sl (Ap v0 v1 v2 v3 v4 (ct Ac v5) (.bool (false && decide ((len v5 : Int) = 0))) (.int v6)) 6) (sl (Ap v0 v1 v2 v3 v4 (ct Ac v5) (.bool (false && decide ((len v5 : Int) = 0))) (.int v6)) 7) (sl (Ap v0 v1 v2 v3 v4 (ct Ac v5) (.bool (false && decide ((len v5 : Int) = 0))) (.int v6)) 8) (sl (Ap v0 v1 v2 v3 v4 (ct Ac v5) (.bool (false && decide ((len v5 : Int) = 0))) (.int v6)) 9) (sl (Ap v0 v1 v2 v3 v4 (ct Ac v5) (.bool (false && decide ((len v5 : Int) = 0))) (.int v6)) 10) (sl (Ap v0 v1 v2 v3 v4 (ct Ac v5) (.bool (false && decide ((len v5 : Int) = 0))) (.int v6)) 14) (sl (Ap v0 v1 v2 v3 v4 (ct Ac v5) (.bool (false && decide ((len v5 : Int) = 0))) (.int v6)) 18) (sl (Ap v0 v1 v2 v3 v4 (ct Ac v5) (.bool (false && decide ((len v5 : Int) = 0))) (.int v6)) 15) (sl (Ap v0 v1 v2 v3 v4 (ct Ac v5) (.bool (false && decide ((len v5 : Int) = 0))) (.int v6)) 16) (sl (Ap v0 v1 v2 v3 v4 (ct Ac v5) (.bool (false && decide ((len v5 : Int) = 0))) (.int v6)) 17) (.bool false) (sl (Ap v0 v1 v2 v3 v4 (ct Ac v5) (.bool (false && decide ((len v5 : Int) = 0))) (.int v6)) 11) (.bool true) (sl (Az v0 v1 v2 v3 v4 v5 (.int v6)) 1) (sl (Az v0 v1 v2 v3 v4 v5 (.int v6)) 2) (sl (Az v0 v1 v2 v3 v4 v5 (.int v6)) 3) (sl (Az v0 v1 v2 v3 v4 v5 (.int v6)) 4) (sl (Az v0 v1 v2 v3 v4 v5 (.int v6)) 5) (sl (Az v0 v1 v2 v3 v4 v5 (.int v6)) 6) (sl (Az v0 v1 v2 v3 v4 v5 (.int v6)) 7) (sl (Az v0 v1 v2 v3 v4 v5 (.int v6)) 8) (sl (Az v0 v1 v2 v3 v4 v5 (.int v6)) 9) Ar) 0).toInt = 1) (
 MK v7 (sl (Ex (sl (Ap v0 v1 v2 v3 v4 (ct Ac v5) (.bool false) (.int v6)) 12) (sl (Ap v0 v1 v2 v3 v4 (ct Ac v5) (.bool false) (.int v6)) 13) (sl (Ap v0 v1 v2 v3 v4 (ct Ac v5) (.bool false) (.int v6)) 1) (sl (Ap v0 v1 v2 v3 v4 (ct Ac v5) (.bool false) (.int v6)) 2) (sl (Ap v0 v1 v2 v3 v4 (ct Ac v5) (.bool false) (.int v6)) 3) (sl (Ap v0 v1 v2 v3 v4 (ct Ac v5) (.bool false) (.int v6)) 4) (sl (Ap v0 v1 v2 v3 v4 (ct Ac v5) (.bool false) (.int v6)) 5) (sl (Ap v0 v1 v2 v3 v4 (ct Ac v5) (.bool false) (.int v6)) 6) (sl (Ap v0 v1 v2 v3 v4 (ct Ac v5) (.bool false) (.int v6)) 7) (sl (Ap v0 v1 v2 v3 v4 (ct Ac v5) (.bool false) (.int v6)) 8) (sl (Ap v0 v1 v2 v3 v4 (ct Ac v5) (.bool false) (.int v6)) 9) (sl (Ap v0 v1 v2 v3 v4 (ct Ac v5) (.bool false) (.int v6)) 10) (sl (Ap v0 v1 v2 v3 v4 (ct Ac v5) (.bool false) (.int v6)) 14) (sl (Ap v0 v1 v2 v3 v4 (ct Ac v5) (.bool false) (.int v6)) 18) (sl (Ap v0 v1 v2 v3 v4 (ct Ac v5) (.bool false) (.int v6)) 15) (sl (Ap v0 v1 v2 v3 v4 (ct Ac v5) (.bool false) (.int v6)) 16) (sl (Ap v0 v1 v2 v3 v4 (ct Ac v5) (.bool false) (.int v6)) 17) (.bool false) (sl (Ap v0 v1 v2 v3 v4 (ct Ac v5) (.bool false) (.int v6)) 11) (.bool true) (sl (Az v0 v1 v2 v3 v4 v5 (.int v6)) 1) (sl (Az v0 v1 v2 v3 v4 v5 (.int v6)) 2) (sl (Az v0 v1 v2 v3 v4 v5 (.int v6)) 3) (sl (Az v0 v1 v2 v3 v4 v5 (.int v6)) 4) (sl (Az v0 v1 v2 v3 v4 v5 (.int v6)) 5) (sl (Az v0 v1 v2 v3 v4 v5 (.int v6)) 6) (sl (Az v0 v1 v2 v3 v4 v5 (.int v6)) 7) (sl (Az v0 v1 v2 v3 v4 v5 (.int v6)) 8) (sl (Az v0 v1 v2 v3 v4 v5 (.int v6)) 9) Ar) 1) (.int 0) (sl (Az v0 v1 v2 v3 v4 v5 (.int v6)) 1) (sl (Az v0 v1 v2 v3 v4 v5 (.int v6)) 2) (sl (Az v0 v1 v2 v3 v4 v5 (.int v6)) 3) (sl (Az v0 v1 v2 v3 v4 v5 (.int v6)) 4) (sl (Az v0 v1 v2 v3 v4 v5 (.int v6)) 5) (sl (Az v0 v1 v2 v3 v4 v5 (.int v6)) 6) (sl (Az v0 v1 v2 v3 v4 v5 (.int v6)) 7) (sl (Az v0 v1 v2 v3 v4 v5 (.int v6)) 8) (sl (Az v0 v1 v2 v3 v4 v5 (.int v6)) 9) Ar (sl (Ap v0 v1 v2 v3 v4 (ct Ac v5) (.bool false) (.int v6)) 1) (sl (Ap v0 v1 v2 v3 v4 (ct Ac v5) (.bool false) (.int v6)) 2) (sl (Ap v0 v1 v2 v3 v4 (ct Ac v5) (.bool false) (.int v6)) 3) (sl (Ap v0 v1 v2 v3 v4 (ct Ac v5) (.bool false) (.int v6)) 4) (sl (Ap v0 v1 v2 v3 v4 (ct Ac v5) (.bool false) (.int v6)) 5) (sl (Ap v0 v1 v2 v3 v4 (ct Ac v5) (.bool false) (.int v6)) 6) (sl (Ap v0 v1 v2 v3 v4 (ct Ac v5) (.bool false) (.int v6)) 7) (sl (Ap v0 v1 v2 v3 v4 (ct Ac v5) (.bool false) (.int v6)) 8) (sl (Ap v0 v1 v2 v3 v4 (ct Ac v5) (.bool false) (.int v6)) 9) (sl (Ap v0 v1 v2 v3 v4 (ct Ac v5) (.bool false) (.int v6)) 10) (.bool false) (sl (Ap v0 v1 v2 v3 v4 (ct Ac v5) (.bool false) (.int v6)) 11) (.bool true) (sl (Ap v0 v1 v2 v3 v4 (ct Ac v5) (.bool false) (.int v6)) 12) (sl (Ap v0 v1 v2 v3 v4 (ct Ac v5) (.bool false) (.int v6)) 13) (sl (Ap v0 v1 v2 v3 v4 (ct Ac v5) (.bool false) (.int v6)) 14) (sl (Ap v0 v1 v2 v3 v4 (ct Ac v5) (.bool false) (.int v6)) 15) (sl (Ap v0 v1 v2 v3 v4 (ct Ac v5) (.bool false) (.int v6)) 16) (sl (Ap v0 v1 v2 v3 v4 (ct Ac v5) (.bool false) (.int v6)) 17) (sl (Ap v0 v1 v2 v3 v4 (ct Ac v5) (.bool false) (.int v6)) 18)) (
 .row [])) (
 .row [.int 1, (.bool false)])) (
 .row [])) (
 .row [.int 1, (.bool false)])) (
 .row [.int 1, (.bool false)])) (
 .row [])) (
 .row []))))))) (
 .row []) := gw rfl rfl (cQ (cg rfl (cQ rfl rfl) (cL (cQ rfl rfl) (cL (cQ rfl rfl) (cL (cQ rfl rfl) (cQ (cQ (cQ (cQ rfl (cQ (cg rfl (cQ rfl rfl) rfl) rfl)) rfl) rfl) (cQ (cQ (cQ (cQ (cQ (cg rfl (cQ rfl rfl) rfl) rfl) rfl) rfl) rfl) rfl)))))) rfl)
theorem Zm (v0 : D) (v1 : Bool) (v2 : Int) (v3 v4 v5 v6 v7 : D) (v8 : Int) (v9 v10 : D) (v11 : Int) (v12 v13 v14 : D) (v15 : Bool) (v16 : D) (v17 : Bool) (v18 : D) (v19 : Bool) (v20 : D) (v21 : Bool) (v22 : Int) (v23 : Bool) (v24 : D) (v25 : Bool) (v26 : D) (v27 : Bool) (v28 : Int) (v29 v30 : D) (v31 : Bool) (v32 : D) {F0 F1 F2 : D} (h0 : Wj v26 (.bool v27) v13 v14 (.bool v15) v16 (.bool v17) v18 (.bool v19) v20 (.bool v21) (.int v22) (.int v28) v32 v29 v30 (.bool v31) (.bool v23) v24 (.bool v25) v3 v4 v5 v6 v7 (.int v8) v9 v10 (.int v11) v12 (cl v0 v2 0) (cl v0 v2 1) (cl v0 v2 2) (cl v0 v2 3) (cl v0 v2 4) = F0) (h1 : Su (sl F0 30) (sl F0 31) (sl F0 21) (sl F0 12) (sl F0 22) (sl F0 13) (sl F0 23) (sl F0 14) (sl F0 24) (sl F0 25) (sl F0 26) (sl F0 27) (sl F0 15) (sl F0 19) (sl F0 16) (sl F0 17) (sl F0 18) (sl F0 28) (sl F0 20) (sl F0 29) = F1) (h2 : Su v26 (.bool v27) v13 v14 (.bool v15) v16 (.bool v17) v18 (.bool v19) v20 (.bool v21) (.int v22) (.int v28) v32 v29 v30 (.bool v31) (.bool v23) v24 (.bool v25) = F2) : MK v0 (.bool v1) (.int v2) v3 v4 v5 v6 v7 (.int v8) v9 v10 (.int v11) v12 v13 v14 (.bool v15) v16 (.bool v17) v18 (.bool v19) v20 (.bool v21) (.int v22) (.bool v23) v24 (.bool v25) v26 (.bool v27) (.int v28) v29 v30 (.bool v31) v32 =
  cond (v2 < len v0) (
 cond (v1) (
 cond (v2 < 0) (
 .row []) (
 cond (60 < (A5 (cl v0 v2 3) : Int)) (
 cond ((sl (I2) 0).toInt = 1) (
 .row [.int 1, (.bool true)]) (
 .row [])) (
 cond (60 < (A5 (cl v0 v2 4) : Int)) (
 cond ((sl (I2) 0).toInt = 1) (
 .row [.int 1, (.bool true)]) (
 .row [])) (
 cond ((sl F0 0).toInt = 1) (
 cond ((sl F1 0).toInt = 1) (
 Yq v0 (sl F0 11) (.int v2) (sl F0 1) (sl F0 2) (sl F0 3) (sl F0 4) (sl F0 5) (sl F0 6) (sl F0 7) (sl F0 8) (sl F0 9) (sl F0 10) (sl F1 1) (sl F1 2) (sl F1 3) (sl F0 21) (sl F0 12) (sl F0 22) (sl F0 13) (sl F0 23) (sl F0 14) (sl F0 24) (sl F0 25) (sl F0 26) (sl F0 27) (sl F0 28) (sl F0 20) (sl F0 29) (sl F0 30) (sl F0 31) (sl F0 15) (sl F0 16) (sl F0 17) (sl F0 18) (sl F0 19)) (
 .row [])) (
 .row []))))) (
 .row [.int 1, (.bool false)])) (
 cond (v1) (
 cond ((sl F2 0).toInt = 1) (
 cond ((sl (Ez (sl F2 2) (sl F2 3) v10) 0).toInt = 1) (
 cond ((sl (Ez (sl F2 2) (sl F2 3) v10) 1).toBool) (
 cond ((sl (I2) 0).toInt = 1) (
 .row [.int 1, (.bool true)]) (
 .row [])) (
 .row [.int 1, (.bool false)])) (
 .row [])) (
 .row [])) (
 .row [.int 1, (.bool false)])) := by
  subst h0; subst h1; subst h2; exact gw rfl rfl (cL (cg rfl (cL rfl (cL (cQ rfl rfl) (cL (cQ rfl rfl) (cQ (cQ rfl rfl) rfl)))) rfl) (cg rfl (cQ (cQ (cg rfl (cQ rfl rfl) rfl) rfl) rfl) rfl))
theorem gy (v0 : D) (v1 : Bool) (v2 : Int) (v3 v4 v5 v6 v7 : D) (v8 : Int) (v9 v10 : D) (v11 : Int) (v12 v13 v14 : D) (v15 : Bool) (v16 v17 : D) (v18 : Bool) (v19 : D) (v20 : Bool) (v21 : D) (v22 : Bool) (v23 : D) (v24 : Bool) (v25 : Int) (v26 : Bool) (v27 : D) (v28 : Bool) (v29 : D) (v30 : Bool) (v31 : Int) (v32 v33 : D) (v34 : Bool) (v35 : D) : Yq v0 (.bool v1) (.int v2) v3 v4 v5 v6 v7 (.int v8) v9 v10 (.int v11) v12 v13 v14 (.bool v15) v16 v17 (.bool v18) v19 (.bool v20) v21 (.bool v22) v23 (.bool v24) (.int v25) (.bool v26) v27 (.bool v28) v29 (.bool v30) (.int v31) v32 v33 (.bool v34) v35 =
  cond (v1) (
 cond (D.strEq v13 v7) (
 cond ((sl (Ez v14 (.bool v15) v10) 0).toInt = 1) (
 My v0 (sl (Ez v14 (.bool v15) v10) 1) (.int v2) (.int 0) v3 v4 v5 v6 v7 (.int v8) v9 v10 (.int v11) v12 v13 v14 (.bool v15) v16 v17 (.bool v18) v19 (.bool v20) v21 (.bool v22) v23 (.bool v24) (.int v25) (.bool v26) v27 (.bool v28) v29 (.bool v30) (.int v31) v32 v33 (.bool v34) v35) (
 .row [])) (
 My v0 (.bool false) (.int v2) (.int 0) v3 v4 v5 v6 v7 (.int v8) v9 v10 (.int v11) v12 v13 v14 (.bool v15) v16 v17 (.bool v18) v19 (.bool v20) v21 (.bool v22) v23 (.bool v24) (.int v25) (.bool v26) v27 (.bool v28) v29 (.bool v30) (.int v31) v32 v33 (.bool v34) v35)) (
 My v0 (.bool false) (.int v2) (.int 0) v3 v4 v5 v6 v7 (.int v8) v9 v10 (.int v11) v12 v13 v14 (.bool v15) v16 v17 (.bool v18) v19 (.bool v20) v21 (.bool v22) v23 (.bool v24) (.int v25) (.bool v26) v27 (.bool v28) v29 (.bool v30) (.int v31) v32 v33 (.bool v34) v35) := gw rfl rfl (cg rfl (cg rfl (cQ rfl rfl) rfl) rfl)
theorem YG (v0 : D) (v1 : Bool) (v2 v3 : Int) (v4 v5 v6 v7 v8 : D) (v9 : Int) (v10 v11 : D) (v12 : Int) (v13 v14 v15 : D) (v16 : Bool) (v17 v18 : D) (v19 : Bool) (v20 : D) (v21 : Bool) (v22 : D) (v23 : Bool) (v24 : D) (v25 : Bool) (v26 : Int) (v27 : Bool) (v28 : D) (v29 : Bool) (v30 : D) (v31 : Bool) (v32 : Int) (v33 v34 : D) (v35 : Bool) (v36 : D) : My v0 (.bool v1) (.int v2) (.int v3) v4 v5 v6 v7 v8 (.int v9) v10 v11 (.int v12) v13 v14 v15 (.bool v16) v17 v18 (.bool v19) v20 (.bool v21) v22 (.bool v23) v24 (.bool v25) (.int v26) (.bool v27) v28 (.bool v29) v30 (.bool v31) (.int v32) v33 v34 (.bool v35) v36 =
  cond (v3 < len v15) (
 cond (v3 < 0) (
 .row []) (
 My v0 (.bool v1) (.int v2) (.int (IntKind.wrap .i64 (v3 + 1))) v4 v5 v6 v7 v8 (.int v9) v10 v11 (.int v12) v13 v14 (upd v15 v3 0 (.int (-1))) (.bool v16) v17 v18 (.bool v19) v20 (.bool v21) v22 (.bool v23) v24 (.bool v25) (.int v26) (.bool v27) v28 (.bool v29) v30 (.bool v31) (.int v32) v33 v34 (.bool v35) v36)) (
 MK v0 (.bool v1) (.int (IntKind.wrap .i64 (v2 + 1))) v4 v5 v6 v7 v8 (.int v9) v10 v11 (.int v12) v13 v17 v18 (.bool v19) v20 (.bool v21) v22 (.bool v23) v24 (.bool v25) (.int v26) (.bool v27) v28 (.bool v29) v30 (.bool v31) (.int v32) v33 v34 (.bool v35) v36) := gw rfl rfl rfl
end
end Mb
namespace Mb
open Go Go.AE
theorem MV (v : D) (i : Int) : 0 ≤ sAt v i ∧ sAt v i < 256 := by
 unfold sAt;have := ((v.toStr.data.toList[i.toNat]?).getD 0).toNat_lt;omega
theorem LN {v : D} : len (PB v) = A5 v := by
 show (List.map _ _).length = _;simp [A5]
theorem SK {v : D} {i : Nat} (h : i < A5 v) : (cl (PB v) i 0).toInt = sAt v i := by
 unfold cl sAt PB;have h' : i < v.toStr.data.toList.length := h;simp [D.rows, List.getD_eq_getElem?_getD, List.getElem?_eq_getElem h', D.cells, D.toInt]
theorem So {x : Int} (h0 : 0 ≤ x) (h1 : x < 256) : IntKind.wrap .u8 x = x := by
 simp only [IntKind.wrap, IntKind.bits, IntKind.signed];have := Int.emod_eq_of_lt h0 h1
 simp_all
section
variable [An]
theorem Nq {v : D} (hs : A5 v ≤ 32) : ∀ (k i : Nat), i + k = A5 v → 1 ≤ i → ∃ b, Rm (PB v) (.int (A5 v : Nat)) (.int i) = .row [.int 1, .bool b] ∧ JF v (.int i) = .row [.int 1, .bool b]
 | 0, i, hi, h1 => by
  refine ⟨true, ?_, ?_⟩
  ·rw [Zx, ifF (by omega)]
  ·rw [U0, ifF (by omega)]
 | k + 1, i, hi, h1 => by
  obtain ⟨b, q1, q2⟩ := Nq hs k (i + 1) (by omega) (by omega)
  have hr := MV v i;have hc := SK (v := v) (i := i) (by omega)
  have A := Zx (PB v) (A5 v : Nat) (i : Int);have B := U0 v (i : Int);rw [hc, So hr.1 hr.2, LN, AJ (by omega) (by omega), show (i : Int) + 1 = ((i + 1 : Nat) : Int) by omega, q1, ifT (by omega), ifF (by omega), ifT (by omega)] at A
  rw [AJ (by omega) (by omega), show (i : Int) + 1 = ((i + 1 : Nat) : Int) by omega, q2, ifT (by omega), ifF (by omega)] at B
  rw [A, B];have hi0 : decide ((i : Int) = 0) = false := decide_eq_false (by omega)
  rw [hi0];simp only [cond_false];generalize sAt v i = c;by_cases c1 : c < 97
  ·simp only [ifT c1];by_cases c2 : c < 65
   ·simp only [ifT c2];by_cases c3 : c < 48
    ·simp only [ifT c3]; exact ⟨_, rfl, rfl⟩
    ·simp only [ifF c3];by_cases c4 : 57 < c
     ·simp only [ifT c4]; exact ⟨_, rfl, rfl⟩
     ·simp only [ifF c4]; exact ⟨_, rfl, rfl⟩
   ·simp only [ifF c2];by_cases c3 : 90 < c
    ·simp only [ifT c3];by_cases c4 : c = 95
     ·simp only [ifT c4]; exact ⟨_, rfl, rfl⟩
     ·simp only [ifF c4]; exact ⟨_, rfl, rfl⟩
    ·simp only [ifF c3]; exact ⟨_, rfl, rfl⟩
  ·simp only [ifF c1];by_cases c2 : 122 < c
   ·simp only [ifT c2]; exact ⟨_, by cases decide ((i : Int) = 0) <;> rfl, rfl⟩
   ·simp only [ifF c2]; exact ⟨_, rfl, rfl⟩
theorem R2 (v : D) : ∃ b, GN v = .row [.int 1, .bool b] ∧ Do v = .row [.int 1, .bool b] := by
 rw [mj, YT];by_cases c1 : (A5 v : Int) < 1
 ·simp only [ifT c1]; exact ⟨_, rfl, rfl⟩
 simp only [ifF c1];by_cases c2 : 32 < (A5 v : Int)
 ·simp only [ifT c2]; exact ⟨_, rfl, rfl⟩
 simp only [ifF c2];obtain ⟨b, q1, q2⟩ := Nq (v := v) (by omega) (A5 v - 1) 1 (by omega) (Nat.le_refl _)
 have hr := MV v (0 : Nat);have hc := SK (v := v) (i := 0) (by omega)
 have A := Zx (PB v) (A5 v : Nat) ((0 : Nat) : Int);have B := U0 v ((0 : Nat) : Int);rw [hc, So hr.1 hr.2, LN, AJ (by omega) (by omega), show ((0 : Nat) : Int) + 1 = ((1 : Nat) : Int) by omega, q1, ifT (by omega), ifF (by omega), ifT (by omega)] at A
 rw [AJ (by omega) (by omega), show ((0 : Nat) : Int) + 1 = ((1 : Nat) : Int) by omega, q2, ifT (by omega), ifF (by omega)] at B
 have z : ((0 : Nat) : Int) = 0 := rfl;rw [z] at A B hr;rw [LN, A, B];generalize sAt v 0 = c;have hi0 : decide ((0 : Int) = 0) = true := rfl;rw [hi0];simp only [cond_true];by_cases c3 : c = 95
 ·subst c3;exact ⟨false, rfl, rfl⟩
 simp only [ifF c3];by_cases c4 : c < 97
 ·simp only [ifT c4];by_cases c5 : c < 65
  ·simp only [ifT c5];by_cases c6 : c < 48
   ·simp only [ifT c6]; exact ⟨_, rfl, rfl⟩
   ·simp only [ifF c6];by_cases c7 : 57 < c
    ·simp only [ifT c7]; exact ⟨_, rfl, rfl⟩
    ·simp only [ifF c7]; exact ⟨_, rfl, rfl⟩
  ·have c6 : ¬ c < 48 := by omega
   have c7 : 57 < c := by omega
   simp only [ifF c5, ifF c6, ifT c7];by_cases c8 : 90 < c
   ·simp only [ifT c8]; exact ⟨_, rfl, rfl⟩
   ·simp only [ifF c8]; exact ⟨_, rfl, rfl⟩
 ·have c6 : ¬ c < 48 := by omega
  have c7 : 57 < c := by omega
  simp only [ifF c4, ifF c6, ifT c7];by_cases c5 : 122 < c
  ·simp only [ifT c5]; exact ⟨_, rfl, rfl⟩
  ·simp only [ifF c5]; exact ⟨_, rfl, rfl⟩
end
end Mb
namespace Mb
open Go Go.AE
def fd (l key : D) : Int := fdG (fun j => D.strEq (cl l j 0) key) (len l) 0
theorem H7 {l key : D} : fd l key < len l := by
 have := KR (p := fun j => D.strEq (cl l j 0) key) (k := len l) (i := 0)
 unfold fd; omega
theorem ka {l key : D} : fd l key = -1 ∨ 0 ≤ fd l key := by
 have := NI (p := fun j => D.strEq (cl l j 0) key) (k := len l) (i := 0)
 unfold fd; omega
theorem Ko {l : D} {i : Nat} (h : i < len l) : 0 ≤ fd l (cl l i 0) ∧ fd l (cl l i 0) ≤ i := Ro (p := fun j => D.strEq (cl l j 0) (cl l i 0)) (Nat.zero_le _) (by omega) JN
theorem Vc {l key : D} (h : 0 ≤ fd l key) : D.strEq (cl l (fd l key) 0) key = true := by
 have := Ok (p := fun j => D.strEq (cl l j 0) key) (k := len l) (i := 0) h
 have e : ((fd l key).toNat : Int) = fd l key := by omega
 rw [← e];exact this
theorem Dr {F : Int → D} {l key : D} (hn : len l < 4611686018427387904) (h : ∀ i : Int, F i = cond (decide (i < (len l : Int))) (cond (decide (i < 0)) (.row []) (cond (D.strEq (cl l i 0) key) (.row [.int 1, .int i]) (F (IntKind.wrap .i64 (i + 1))))) (.row [.int 1, .int (-1)])) : F 0 = .row [.int 1, .int (fd l key)] := by
 refine find (F := fun i => F (i : Int)) (n := len l) (bad := fun j => D.strEq (cl l j 0) key) (fun j hj => ?_) ?_
 ·show F (j : Int) = _;rw [h, ifT (by omega), ifF (by omega), Bp (by omega)]
 ·show F (len l : Int) = _;rw [h, ifF (by omega)]
section
variable [An]
variable {v0 v1 v2 v3 v4 v5 : D}
theorem YP (hn : len v0 < 4611686018427387904) (k : D) : UF v0 k = .row [.int 1, .int (fd v0 k)] := (mT ..).trans (Dr (F := fun i => Xc v0 (.int i) k) hn fun i => nh ..)
theorem Yy (hn : len v0 < 4611686018427387904) (k : D) : Je v0 k = .row [.int 1, .int (fd v0 k)] := (nq ..).trans (Dr (F := fun i => XZ v0 (.int i) k) hn fun i => mU ..)
theorem Ut (hn : len v2 < 4611686018427387904) (k : D) : Ip v0 v1 v2 v3 k = .row [.int 1, .int (fd v2 k)] := (dh ..).trans (Dr (F := fun i => R1 k (.int i) v0 v1 v2 v3) hn fun i => kM ..)
theorem UY (hn : len v1 < 4611686018427387904) (k : D) : Hm v0 v1 v2 v3 k = .row [.int 1, .int (fd v1 k)] := (eJ ..).trans (Dr (F := fun i => RU k (.int i) v0 v1 v2 v3) hn fun i => kI ..)
def nm (v : D) : Bool := (sl (Do v) 1).toBool
theorem SI (v : D) : GN v = .row [.int 1, .bool (nm v)] := by
 obtain ⟨b, q1, q2⟩ := R2 v;rw [q1];unfold nm;rw [q2];rfl
theorem NG (v : D) : Do v = .row [.int 1, .bool (nm v)] := by
 obtain ⟨b, q1, q2⟩ := R2 v;unfold nm;rw [q2];rfl
def Li (v2 : D) (i : Nat) : Bool := !nm (cl v2 i 0) || decide (fd v2 (cl v2 i 0) < i) || decide ((cl v2 i 1).toInt < 1) || decide (1000 < (cl v2 i 1).toInt)
def Jt (v1 : D) (i : Nat) : Bool := !nm (cl v1 i 0) || decide (fd v1 (cl v1 i 0) < i) || decide ((cl v1 i 2).toInt < 0) || decide (1048576 < (cl v1 i 2).toInt)
theorem lj (hn : len v2 < 1000) (v0 v1 v3 : D) : UA (.int (len v2 : Nat)) (.int 0) (.int 4) v0 v1 v2 v3 = .row [.int 1, .int (cond (decide (4 < (len v2 : Int))) 4 (fdG (Li v2) (len v2) 0))] := by
 rw [mw, ifF (by omega)]
 by_cases c : 4 < (len v2 : Int)
 ·rw [ifT c, ifT c]
 rw [ifF c, ifF c];refine find (F := fun i => TC (.int (len v2 : Nat)) (.int (i : Nat)) v0 v1 v2 v3) (n := len v2) (bad := Li v2) (fun j hj => ?_) ?_
 ·show TC _ (.int (j : Nat)) _ _ _ _ = _;rw [kg, ifT (by omega), ifF (by omega), ifT (by omega)]
  simp only [SI, YP (v0 := v2) (by omega), AZ, AY, Ax, AK, decide_true, cond_true, Bp (i := j) (by omega)]
  unfold Li;cases nm (cl v2 j 0) <;> cases decide (fd v2 (cl v2 j 0) < j) <;> cases decide ((cl v2 j 1).toInt < 1) <;> cases decide (1000 < (cl v2 j 1).toInt) <;> rfl
 ·show TC _ (.int (len v2 : Nat)) _ _ _ _ = _;rw [kg, ifF (by omega)]
theorem jI (hn : len v1 < 1000) (v0 v2 v3 : D) : Vp (.int (len v1 : Nat)) (.int 1) (.int 24) v0 v1 v2 v3 = .row [.int 1, .int (cond (decide ((len v1 : Int) < 1)) 0 (cond (decide (24 < (len v1 : Int))) 24 (fdG (Jt v1) (len v1) 0)))] := by
 rw [nb];by_cases c : (len v1 : Int) < 1
 ·rw [ifT c, ifT c]
 rw [ifF c, ifF c];by_cases c : 24 < (len v1 : Int)
 ·rw [ifT c, ifT c]
 rw [ifF c, ifF c];refine find (F := fun i => TG (.int (len v1 : Nat)) (.int (i : Nat)) v0 v1 v2 v3) (n := len v1) (bad := Jt v1) (fun j hj => ?_) ?_
 ·show TG _ (.int (j : Nat)) _ _ _ _ = _;rw [fU, ifT (by omega), ifF (by omega), ifT (by omega)]
  simp only [SI, Yy (v0 := v1) (by omega), AZ, AY, Ax, AK, decide_true, cond_true, Bp (i := j) (by omega)]
  unfold Jt;cases nm (cl v1 j 0) <;> cases decide (fd v1 (cl v1 j 0) < j) <;> cases decide ((cl v1 j 2).toInt < 0) <;> cases decide (1048576 < (cl v1 j 2).toInt) <;> rfl
 ·show TG _ (.int (len v1 : Nat)) _ _ _ _ = _;rw [fU, ifF (by omega)]
end
end Mb
namespace Mb
open Go Go.AE
def D9 (v3 : D) (i j : Nat) : Bool := D.strEq (cl v3 j 0) (cl v3 i 0) && (D.strEq (cl v3 j 1) (cl v3 i 1) && (decide ((cl v3 j 2).toInt = (cl v3 i 2).toInt) && (D.strEq (cl v3 j 3) (cl v3 i 3) && (D.strEq (cl v3 j 4) (cl v3 i 4) && (D.strEq (cl v3 j 5) (cl v3 i 5) && (decide ((cl v3 j 6).toInt = (cl v3 i 6).toInt) && (decide ((cl v3 j 7).toInt = (cl v3 i 7).toInt) && decide ((cl v3 j 8).toInt = (cl v3 i 8).toInt))))))))
def dup (v3 : D) (i : Nat) : Bool := !decide (fdG (D9 v3 i) i 0 < 0)
def Ya (v2 v3 : D) (i : Nat) : Bool := cond (eqC (cl v3 i 5) 0 0) (cond (decide ((cl v3 i 6).toInt = 0)) (cond (decide ((cl v3 i 7).toInt = 0)) (cond (decide ((cl v3 i 8).toInt = 0)) false true) true) true)
 (cond (decide (fd v2 (cl v3 i 5) < 0)) true (cond (decide ((cl v3 i 6).toInt < 0)) true (cond (decide ((cl v3 i 7).toInt < (cl v3 i 6).toInt)) true (cond (decide ((cl v3 i 8).toInt < (-1000))) true (cond (decide (1000 < (cl v3 i 8).toInt)) true
  (cond (decide ((cl v2 (fd v2 (cl v3 i 5)) 1).toInt < (cl v3 i 7).toInt)) true (cond (decide (IntKind.wrap .i64 ((cl v3 i 6).toInt + (cl v3 i 8).toInt) < 0)) true (cond (decide ((cl v2 (fd v2 (cl v3 i 5)) 1).toInt < IntKind.wrap .i64 ((cl v3 i 7).toInt + (cl v3 i 8).toInt))) true false))))))))
def Em (v3 : D) : Prop := ∀ i : Nat, i < len v3 → (∃ n, cl v3 i 2 = .int n) ∧ (∃ n, cl v3 i 6 = .int n) ∧ (∃ n, cl v3 i 7 = .int n) ∧ (∃ n, cl v3 i 8 = .int n) ∧ A5 (cl v3 i 3) < 4611686018427387904 ∧ A5 (cl v3 i 4) < 4611686018427387904
section
variable [An]
def PN (v0 v1 v3 : D) (i : Nat) : Bool := cond (decide ((cl v3 i 2).toInt = 1)) (cond (nm (cl v3 i 3)) (cond (nm (cl v3 i 4)) (D.strEq (cl v3 i 4) v0) true) true)
 (cond (decide ((cl v3 i 2).toInt = 2)) (cond (nm (cl v3 i 3)) (cond (nm (cl v3 i 4)) (D.strEq (cl v3 i 4) v0) true) true)
 (cond (decide ((cl v3 i 2).toInt = 3)) (cond (eqC (cl v3 i 3) 0 0) (cond (eqC (cl v3 i 4) 0 0) (!decide (0 < (cl v1 (fd v1 (cl v3 i 0)) 2).toInt)) true) true)
 (cond (decide ((cl v3 i 2).toInt = 4)) (cond (eqC (cl v3 i 3) 0 0) (cond (eqC (cl v3 i 4) 0 0) false true) true) true)))
def Gq (v0 v1 v2 v3 : D) (i : Nat) : Bool := decide (fd v1 (cl v3 i 0) < 0) || (decide (fd v1 (cl v3 i 1) < 0) || (dup v3 i || (PN v0 v1 v3 i || Ya v2 v3 i)))
variable {v0 v1 v2 v3 : D}
theorem jO (hs : Em v3) (hn : len v3 < 1000) {i : Nat} (hi : i < len v3) : ∃ n : Int, ap (sb v3 0 i) (cl v3 i 0) (cl v3 i 1) (cl v3 i 2) (cl v3 i 3) (cl v3 i 4) (cl v3 i 5) (cl v3 i 6) (cl v3 i 7) (cl v3 i 8) = .row [.int 1, .int n] ∧ decide (n < 0) = !dup v3 i := by
 obtain ⟨⟨n2, h2⟩, ⟨n6, h6⟩, ⟨n7, h7⟩, ⟨n8, h8⟩, _⟩ := hs i hi;refine ⟨fdG (D9 v3 i) i 0, ?_, by unfold dup; rw [Bool.not_not]⟩
 have hl : len (sb v3 0 i) = i := by
  have := Wp (a := v3) (lo := 0) (hi := (i : Int)) (by omega) (by omega)
  omega
 rw [h2, h6, h7, h8, nw];refine find (F := fun j => Ta (sb v3 0 i) (.int (j : Nat)) (cl v3 i 0) (cl v3 i 1) (.int n2) (cl v3 i 3) (cl v3 i 4) (cl v3 i 5) (.int n6) (.int n7) (.int n8)) (n := i) (bad := D9 v3 i) (fun j hj => ?_) ?_
 ·show Ta (sb v3 0 i) (.int (j : Nat)) (cl v3 i 0) (cl v3 i 1) (.int n2) (cl v3 i 3) (cl v3 i 4) (cl v3 i 5) (.int n6) (.int n7) (.int n8) = _;rw [gk, hl, ifT (by omega), ifF (by omega), Bp (by omega)]
  simp only [KS (a := v3) (i := i) (j := j) (by omega) hj]
  have e : (D.strEq (cl v3 i 0) (cl v3 j 0) && (D.strEq (cl v3 i 1) (cl v3 j 1) && (decide (n2 = (cl v3 j 2).toInt) && (D.strEq (cl v3 i 3) (cl v3 j 3) && (D.strEq (cl v3 i 4) (cl v3 j 4) && (D.strEq (cl v3 i 5) (cl v3 j 5) && (decide (n6 = (cl v3 j 6).toInt) && (decide (n7 = (cl v3 j 7).toInt) && decide (n8 = (cl v3 j 8).toInt))))))))) = D9 v3 i j := by
   unfold D9;rw [h2, h6, h7, h8];simp only [Ax];rw [BE (a := cl v3 i 0), BE (a := cl v3 i 1), BE (a := cl v3 i 3), BE (a := cl v3 i 4), BE (a := cl v3 i 5)];rw [Si (x := n2), Si (x := n6), Si (x := n7), Si (x := n8)];rfl
  rw [e]
 ·show Ta (sb v3 0 i) (.int (i : Nat)) (cl v3 i 0) (cl v3 i 1) (.int n2) (cl v3 i 3) (cl v3 i 4) (cl v3 i 5) (.int n6) (.int n7) (.int n8) = _;rw [gk, hl, ifF (by omega)]
theorem Yc (hs : Em v3) (hn : len v3 < 1000) (hn1 : len v1 < 1000) (hn2 : len v2 < 1000) {i : Nat} (hi : i < len v3) : HI (.int (len v3 : Nat)) (.int (i : Nat)) v0 v1 v2 v3 = cond (Gq v0 v1 v2 v3 i) (.row [.int 1, .int (i : Nat)]) (HI (.int (len v3 : Nat)) (.int (i + 1 : Nat)) v0 v1 v2 v3) := by
 obtain ⟨n, h6, hd⟩ := jO hs hn hi;obtain ⟨_, _, _, _, h3, h4⟩ := hs i hi;rw [iK (h0 := rfl) (h1 := rfl) (h2 := rfl), ifT (by omega), ifF (by omega), ifT (by omega)]
 have a1 := H7 (l := v1) (key := cl v3 i 0);have a2 := H7 (l := v2) (key := cl v3 i 5);have d1 : decide ((A5 (cl v3 i 3) : Int) < 4611686018427387904) = true := decide_eq_true (by omega)
 have d2 : decide ((A5 (cl v3 i 4) : Int) < 4611686018427387904) = true := decide_eq_true (by omega)
 have d3 : decide ((len v3 : Int) < i) = false := decide_eq_false (by omega)
 simp only [h6, hd, SI, YP (v0 := v2) (by omega), Yy (v0 := v1) (by omega), AZ, AY, Ax, AK, decide_true, cond_true, cond_false, Bp (i := i) (by omega), decide_eq_true a1, decide_eq_true a2, d1, d2, d3, Rt]
 unfold Gq PN;generalize HI (.int (len v3 : Nat)) (.int (i + 1 : Nat)) v0 v1 v2 v3 = X;generalize hY : (D.row [.int 1, .int (i : Nat)]) = Y;cases decide (fd v1 (cl v3 i 0) < 0) <;> cases decide (fd v1 (cl v3 i 1) < 0) <;> cases dup v3 i <;> simp only [cond_true, cond_false, Bool.true_or, Bool.false_or, Bool.not_true, Bool.not_false, Bool.cond_self]
 unfold Ya;by_cases k1 : (cl v3 i 2).toInt = 1
 ·simp only [ifT k1];cases nm (cl v3 i 3) <;> cases nm (cl v3 i 4) <;> cases D.strEq (cl v3 i 4) v0 <;> simp only [cond_true, cond_false, Bool.true_or, Bool.false_or]
  repeat' (refine KI (fun h => ?_) (fun h => ?_)) <;> simp only [*, cond_true, cond_false]
 simp only [ifF k1];by_cases k2 : (cl v3 i 2).toInt = 2
 ·simp only [ifT k2];cases nm (cl v3 i 3) <;> cases nm (cl v3 i 4) <;> cases D.strEq (cl v3 i 4) v0 <;> simp only [cond_true, cond_false, Bool.true_or, Bool.false_or]
  repeat' (refine KI (fun h => ?_) (fun h => ?_)) <;> simp only [*, cond_true, cond_false]
 simp only [ifF k2];by_cases k3 : (cl v3 i 2).toInt = 3
 ·simp only [ifT k3];cases eqC (cl v3 i 3) 0 0 <;> cases eqC (cl v3 i 4) 0 0 <;> cases decide (0 < (cl v1 (fd v1 (cl v3 i 0)) 2).toInt) <;> simp only [cond_true, cond_false, Bool.true_or, Bool.false_or, Bool.and_true, Bool.true_and, Bool.and_false, Bool.false_and, Bool.not_true, Bool.not_false]
  repeat' (refine KI (fun h => ?_) (fun h => ?_)) <;> simp only [*, cond_true, cond_false]
 simp only [ifF k3];by_cases k4 : (cl v3 i 2).toInt = 4
 ·simp only [ifT k4];cases eqC (cl v3 i 3) 0 0 <;> cases eqC (cl v3 i 4) 0 0 <;> simp only [cond_true, cond_false, Bool.true_or, Bool.false_or, Bool.and_true, Bool.true_and, Bool.and_false, Bool.false_and, Bool.not_true, Bool.not_false]
  repeat' (refine KI (fun h => ?_) (fun h => ?_)) <;> simp only [*, cond_true, cond_false]
 simp only [ifF k4, cond_true, Bool.true_or]
theorem jg (hs : Em v3) (hn : len v3 < 1000) (hn1 : len v1 < 1000) (hn2 : len v2 < 1000) (v0 : D) : V2 (.int (len v3 : Nat)) (.int 0) (.int 80) v0 v1 v2 v3 = .row [.int 1, .int (cond (decide (80 < (len v3 : Int))) 80 (fdG (Gq v0 v1 v2 v3) (len v3) 0))] := by
 rw [mq, ifF (by omega)]
 by_cases c : 80 < (len v3 : Int)
 ·rw [ifT c, ifT c]
 rw [ifF c, ifF c];refine find (F := fun i => HI (.int (len v3 : Nat)) (.int (i : Nat)) v0 v1 v2 v3) (n := len v3) (bad := Gq v0 v1 v2 v3) (fun j hj => Yc hs hn hn1 hn2 hj) ?_
 show HI _ (.int (len v3 : Nat)) _ _ _ _ = _;rw [iK (h0 := rfl) (h1 := rfl) (h2 := rfl), ifF (by omega)]
theorem VJ (hs : Em v3) (hn : len v3 < 1000) (hn1 : len v1 < 1000) (hn2 : len v2 < 1000) {i : Nat} (hi : i < len v3) (hf : 0 ≤ fd v1 (cl v3 i 0)) : Ge (.int (i : Nat)) (.int (fd v1 (cl v3 i 0))) (.int 0) v0 v1 v2 v3 (cl v3 i 0) (cl v3 i 1) (cl v3 i 2) (cl v3 i 3) (cl v3 i 4) (cl v3 i 5) (cl v3 i 6) (cl v3 i 7) (cl v3 i 8) = .row [.int 1, .bool (!(dup v3 i || PN v0 v1 v3 i))] := by
 obtain ⟨⟨n2, h2⟩, ⟨n6, h6⟩, ⟨n7, h7⟩, ⟨n8, h8⟩, h3, h4⟩ := hs i hi
 have L := Ki (F := fun j => Ge (.int (i : Nat)) (.int (fd v1 (cl v3 i 0))) (.int (j : Nat)) v0 v1 v2 v3 (cl v3 i 0) (cl v3 i 1) (cl v3 i 2) (cl v3 i 3) (cl v3 i 4) (cl v3 i 5) (cl v3 i 6) (cl v3 i 7) (cl v3 i 8)) (n := i) (bad := D9 v3 i) (B := fun _ => .row [.int 1, .bool false]) (fun j hj => by
  show Ge (.int (i : Nat)) (.int (fd v1 (cl v3 i 0))) (.int (j : Nat)) v0 v1 v2 v3 (cl v3 i 0) (cl v3 i 1) (cl v3 i 2) (cl v3 i 3) (cl v3 i 4) (cl v3 i 5) (cl v3 i 6) (cl v3 i 7) (cl v3 i 8) = cond _ _ (Ge (.int (i : Nat)) (.int (fd v1 (cl v3 i 0))) (.int (j + 1 : Nat)) v0 v1 v2 v3 (cl v3 i 0) (cl v3 i 1) (cl v3 i 2) (cl v3 i 3) (cl v3 i 4) (cl v3 i 5) (cl v3 i 6) (cl v3 i 7) (cl v3 i 8))
  have e : (D.strEq (cl v3 j 0) (cl v3 i 0) && (D.strEq (cl v3 j 1) (cl v3 i 1) && (decide ((cl v3 j 2).toInt = n2) && (D.strEq (cl v3 j 3) (cl v3 i 3) && (D.strEq (cl v3 j 4) (cl v3 i 4) && (D.strEq (cl v3 j 5) (cl v3 i 5) && (decide ((cl v3 j 6).toInt = n6) && (decide ((cl v3 j 7).toInt = n7) && decide ((cl v3 j 8).toInt = n8))))))))) = D9 v3 i j := by
   unfold D9;rw [h2, h6, h7, h8];rfl
  rw [← e, h2, h6, h7, h8, YF, ifT (by omega), ifF (by omega), ifT (by omega), Bp (by omega)])
 have L : Ge (.int (i : Nat)) (.int (fd v1 (cl v3 i 0))) (.int 0) v0 v1 v2 v3 (cl v3 i 0) (cl v3 i 1) (cl v3 i 2) (cl v3 i 3) (cl v3 i 4) (cl v3 i 5) (cl v3 i 6) (cl v3 i 7) (cl v3 i 8) = cond (decide (fdG (D9 v3 i) i 0 < 0)) (Ge (.int (i : Nat)) (.int (fd v1 (cl v3 i 0))) (.int (i : Nat)) v0 v1 v2 v3 (cl v3 i 0) (cl v3 i 1) (cl v3 i 2) (cl v3 i 3) (cl v3 i 4) (cl v3 i 5) (cl v3 i 6) (cl v3 i 7) (cl v3 i 8)) (.row [.int 1, .bool false]) := L;rw [L];have e : decide (fdG (D9 v3 i) i 0 < 0) = !dup v3 i := by unfold dup; rw [Bool.not_not]
 rw [e];cases dup v3 i
 ·show Ge (.int (i : Nat)) (.int (fd v1 (cl v3 i 0))) (.int (i : Nat)) v0 v1 v2 v3 (cl v3 i 0) (cl v3 i 1) (cl v3 i 2) (cl v3 i 3) (cl v3 i 4) (cl v3 i 5) (cl v3 i 6) (cl v3 i 7) (cl v3 i 8) = .row [.int 1, .bool (!PN v0 v1 v3 i)];have a1 := H7 (l := v1) (key := cl v3 i 0);have t2 : (cl v3 i 2).toInt = n2 := by rw [h2]; rfl
  have R : Ge (.int (i : Nat)) (.int (fd v1 (cl v3 i 0))) (.int (i : Nat)) v0 v1 v2 v3 (cl v3 i 0) (cl v3 i 1) (.int n2) (cl v3 i 3) (cl v3 i 4) (cl v3 i 5) (.int n6) (.int n7) (.int n8) = .row [.int 1, .bool (!PN v0 v1 v3 i)] := by
   rw [YF, ifF (by omega)]
   simp only [NG, AZ, AY, Ax, AK, decide_true, cond_true, decide_eq_true a1, decide_eq_false (show ¬ fd v1 (cl v3 i 0) < 0 by omega), cond_false]
   unfold PN;by_cases k1 : n2 = 1
   ·rw [ifT k1, ifT (t2.trans k1)];cases nm (cl v3 i 3) <;> cases nm (cl v3 i 4) <;> rfl
   rw [ifF k1, ifF (p := (cl v3 i 2).toInt = 1) (by omega)]
   by_cases k2 : n2 = 2
   ·rw [ifT k2, ifT (t2.trans k2)];cases nm (cl v3 i 3) <;> cases nm (cl v3 i 4) <;> rfl
   rw [ifF k2, ifF (p := (cl v3 i 2).toInt = 2) (by omega)]
   by_cases k3 : n2 = 3
   ·rw [ifT k3, ifT (t2.trans k3)];cases eqC (cl v3 i 3) 0 0 <;> cases eqC (cl v3 i 4) 0 0 <;> simp only [cond_true, cond_false, Bool.not_true, Bool.not_false, Bool.not_not]
   rw [ifF k3, ifF (p := (cl v3 i 2).toInt = 3) (by omega)]
   by_cases k4 : n2 = 4
   ·rw [ifT k4, ifT (t2.trans k4)];cases eqC (cl v3 i 3) 0 0 <;> cases eqC (cl v3 i 4) 0 0 <;> rfl
   rw [ifF k4, ifF (p := (cl v3 i 2).toInt = 4) (by omega)]
   rfl
  rw [h2, h6, h7, h8];exact R
 ·rfl
theorem Z0 (hs : Em v3) (hn : len v3 < 1000) (hn1 : len v1 < 1000) (hn2 : len v2 < 1000) {i : Nat} (hi : i < len v3) : SG v0 v1 v2 v3 (.int (i : Nat)) = .row [.int 1, .bool (!Gq v0 v1 v2 v3 i)] := by
 rw [fO, ifF (by omega), ifT (by omega)]
 have a1 := H7 (l := v1) (key := cl v3 i 0);have a2 := H7 (l := v2) (key := cl v3 i 5);simp only [Ut (v0 := v0) (v1 := v1) (v2 := v2) (v3 := v3) (by omega), UY (v0 := v0) (v1 := v1) (v2 := v2) (v3 := v3) (by omega), AZ, AY, Ax, AK, decide_true, cond_true, decide_eq_true a2]
 unfold Gq;by_cases c : fd v1 (cl v3 i 0) < 0
 ·rw [ifT c, decide_eq_true c]; rfl
 rw [ifF c, decide_eq_false c, VJ hs hn hn1 hn2 hi (by omega)]
 unfold Ya;cases decide (fd v1 (cl v3 i 1) < 0) <;> cases dup v3 i <;> cases PN v0 v1 v3 i <;> simp only [cond_true, cond_false, Bool.true_or, Bool.false_or, Bool.not_true, Bool.not_false]
 all_goals (repeat' (refine KI (fun h => ?_) (fun h => ?_))) <;> simp only [*, cond_true, cond_false, Bool.not_true, Bool.not_false, Bool.cond_self]
end
end Mb
namespace Mb
open Go Go.AE
section
variable [An]
variable {v0 v1 v2 v3 : D}
def Jh (v2 : D) : Int := cond (decide (4 < (len v2 : Int))) 4 (fdG (Li v2) (len v2) 0)
def HK (v1 : D) : Int := cond (decide ((len v1 : Int) < 1)) 0 (cond (decide (24 < (len v1 : Int))) 24 (fdG (Jt v1) (len v1) 0))
def I5 (v0 v1 v2 v3 : D) : Int := cond (decide (80 < (len v3 : Int))) 80 (fdG (Gq v0 v1 v2 v3) (len v3) 0)
def rok (v0 v1 v2 v3 : D) : Bool := nm v0 && (decide (Jh v2 < 0) && (decide (HK v1 < 0) && decide (I5 v0 v1 v2 v3 < 0)))
theorem nr (hn : len v2 < 1000) : JO (.int 0) v0 v1 v2 v3 = cond (decide (fdG (Li v2) (len v2) 0 < 0)) (JO (.int (len v2 : Nat)) v0 v1 v2 v3) (.row [.int 1, .int (fdG (Li v2) (len v2) 0).toNat, .int 291]) :=
 Ki (F := fun j => JO (.int (j : Nat)) v0 v1 v2 v3) (n := len v2) (bad := Li v2) (B := fun j => .row [.int 1, .int (j : Nat), .int 291]) fun j hj => by
  show JO (.int (j : Nat)) v0 v1 v2 v3 = cond _ _ (JO (.int (j + 1 : Nat)) v0 v1 v2 v3);have a := Ko hj;rw [Zb, ifT (by omega), ifF (by omega), Bp (by omega)]
  simp only [NG, Ut (v0 := v0) (v1 := v1) (v2 := v2) (v3 := v3) (by omega), AZ, AY, Ax, AK, decide_true, cond_true]
  unfold Li;by_cases q : fd v2 (cl v2 j 0) < j
  ·rw [ifF (by omega), decide_eq_true q]
   cases nm (cl v2 j 0) <;> rfl
  ·rw [ifT (by omega), decide_eq_false q]
   cases nm (cl v2 j 0) <;> cases decide ((cl v2 j 1).toInt < 1) <;> cases decide (1000 < (cl v2 j 1).toInt) <;> rfl
theorem mh (hn : len v1 < 1000) : J7 (.int 0) v0 v1 v2 v3 = cond (decide (fdG (Jt v1) (len v1) 0 < 0)) (J7 (.int (len v1 : Nat)) v0 v1 v2 v3) (.row [.int 1, .int (fdG (Jt v1) (len v1) 0).toNat, .int 292]) :=
 Ki (F := fun j => J7 (.int (j : Nat)) v0 v1 v2 v3) (n := len v1) (bad := Jt v1) (B := fun j => .row [.int 1, .int (j : Nat), .int 292]) fun j hj => by
  show J7 (.int (j : Nat)) v0 v1 v2 v3 = cond _ _ (J7 (.int (j + 1 : Nat)) v0 v1 v2 v3);have a := Ko hj;rw [Zg, ifT (by omega), ifF (by omega), Bp (by omega)]
  simp only [NG, UY (v0 := v0) (v1 := v1) (v2 := v2) (v3 := v3) (by omega), AZ, AY, Ax, AK, decide_true, cond_true]
  unfold Jt;by_cases q : fd v1 (cl v1 j 0) < j
  ·rw [ifF (by omega), decide_eq_true q]
   cases nm (cl v1 j 0) <;> rfl
  ·rw [ifT (by omega), decide_eq_false q]
   cases nm (cl v1 j 0) <;> cases decide ((cl v1 j 2).toInt < 0) <;> cases decide (1048576 < (cl v1 j 2).toInt) <;> rfl
theorem mW (hs : Em v3) (hn : len v3 < 1000) (hn1 : len v1 < 1000) (hn2 : len v2 < 1000) : JH (.int 0) v0 v1 v2 v3 = cond (decide (fdG (Gq v0 v1 v2 v3) (len v3) 0 < 0)) (JH (.int (len v3 : Nat)) v0 v1 v2 v3) (.row [.int 1, .int (fdG (Gq v0 v1 v2 v3) (len v3) 0).toNat, .int 293]) :=
 Ki (F := fun j => JH (.int (j : Nat)) v0 v1 v2 v3) (n := len v3) (bad := Gq v0 v1 v2 v3) (B := fun j => .row [.int 1, .int (j : Nat), .int 293]) fun j hj => by
  show JH (.int (j : Nat)) v0 v1 v2 v3 = cond _ _ (JH (.int (j + 1 : Nat)) v0 v1 v2 v3);rw [Zk, ifT (by omega), Bp (by omega)]
  simp only [Z0 hs hn hn1 hn2 hj, AZ, AY, Ax, AK, decide_true, cond_true];cases Gq v0 v1 v2 v3 j <;> rfl
end
end Mb
namespace Mb
open Go Go.AE
section
variable [An]
variable {v0 v1 v2 v3 : D}
def GD (v0 v1 v2 v3 : D) : Int := cond (nm v0) (cond (decide (Jh v2 < 0)) (cond (decide (HK v1 < 0)) (cond (decide (I5 v0 v1 v2 v3 < 0)) 0 293) 292) 291) 290
theorem Ve : decide (GD v0 v1 v2 v3 = 0) = rok v0 v1 v2 v3 := by
 unfold GD rok;cases nm v0
 ·rfl
 cases decide (Jh v2 < 0)
 ·rfl
 cases decide (HK v1 < 0)
 ·rfl
 cases decide (I5 v0 v1 v2 v3 < 0) <;> rfl
theorem Zj (hs : Em v3) (hn : len v3 < 1000) (hn1 : len v1 < 1000) (hn2 : len v2 < 1000) (v0 : D) : ∃ a, Wi v0 v1 v2 v3 = .row [.int 1, .int a, .int (GD v0 v1 v2 v3)] := by
 rw [mR];simp only [SI, lj hn2, jI hn1, jg hs hn hn1 hn2, AZ, AY, Ax, AK, decide_true, cond_true];unfold GD;cases nm v0
 ·exact ⟨_, rfl⟩
 simp only [cond_true];by_cases c1 : Jh v2 < 0;rotate_left
 ·have c1' := c1;unfold Jh at c1;rw [ifF c1, ifF c1'];exact ⟨_, rfl⟩
 rw [ifT c1];unfold Jh at c1;rw [ifT c1];by_cases c2 : HK v1 < 0;rotate_left
 ·have c2' := c2;unfold HK at c2;rw [ifF c2, ifF c2'];exact ⟨_, rfl⟩
 rw [ifT c2];unfold HK at c2;rw [ifT c2];by_cases c3 : I5 v0 v1 v2 v3 < 0;rotate_left
 ·have c3' := c3;unfold I5 at c3;rw [ifF c3, ifF c3'];exact ⟨_, rfl⟩
 rw [ifT c3];unfold I5 at c3;rw [ifT c3];exact ⟨_, rfl⟩
theorem PI (hs : Em v3) (hn : len v3 < 1000) (hn1 : len v1 < 1000) (hn2 : len v2 < 1000) (v0 : D) : ∃ a, PS v0 v1 v2 v3 = .row [.int 1, .int a, .int (GD v0 v1 v2 v3)] := by
 rw [ij];simp only [NG, AZ, AY, Ax, AK, decide_true, cond_true];unfold GD;cases c0 : nm v0
 ·exact ⟨_, rfl⟩
 simp only [cond_true];by_cases c1 : 4 < (len v2 : Int)
 ·rw [ifT c1, ifF (show ¬ Jh v2 < 0 by unfold Jh; rw [ifT c1]; omega)]
  exact ⟨_, rfl⟩
 rw [ifF c1, nr hn2];by_cases c2 : fdG (Li v2) (len v2) 0 < 0;rotate_left
 ·rw [ifF c2, ifF (show ¬ Jh v2 < 0 by unfold Jh; rw [ifF c1]; exact c2)]
  exact ⟨_, rfl⟩
 rw [ifT c2, Zb, ifF (by omega), ifT (show Jh v2 < 0 by unfold Jh; rw [ifF c1]; exact c2)]
 by_cases c3 : (len v1 : Int) = 0
 ·rw [ifT c3, ifF (show ¬ HK v1 < 0 by unfold HK; rw [ifT (by omega)]; omega)]
  exact ⟨_, rfl⟩
 rw [ifF c3];by_cases c4 : 24 < (len v1 : Int)
 ·rw [ifT c4, ifF (show ¬ HK v1 < 0 by unfold HK; rw [ifF (by omega), ifT c4]; omega)]
  exact ⟨_, rfl⟩
 rw [ifF c4, mh hn1];by_cases c5 : fdG (Jt v1) (len v1) 0 < 0;rotate_left
 ·rw [ifF c5, ifF (show ¬ HK v1 < 0 by unfold HK; rw [ifF (by omega), ifF c4]; exact c5)]
  exact ⟨_, rfl⟩
 rw [ifT c5, Zg, ifF (by omega), ifT (show HK v1 < 0 by unfold HK; rw [ifF (by omega), ifF c4]; exact c5)]
 by_cases c6 : 80 < (len v3 : Int)
 ·rw [ifT c6, ifF (show ¬ I5 v0 v1 v2 v3 < 0 by unfold I5; rw [ifT c6]; omega)]
  exact ⟨_, rfl⟩
 rw [ifF c6, mW hs hn hn1 hn2];by_cases c7 : fdG (Gq v0 v1 v2 v3) (len v3) 0 < 0;rotate_left
 ·rw [ifF c7, ifF (show ¬ I5 v0 v1 v2 v3 < 0 by unfold I5; rw [ifF c6]; exact c7)]
  exact ⟨_, rfl⟩
 rw [ifT c7, Zk, ifF (by omega), ifT (show I5 v0 v1 v2 v3 < 0 by unfold I5; rw [ifF c6]; exact c7)]
 exact ⟨_, rfl⟩
theorem VW {v : D} (h : nm v = true) : 1 ≤ A5 v := by
 rcases Nat.lt_or_ge 0 (A5 v) with q | q
 ·exact q
 unfold nm at h;rw [YT, ifT (by omega)] at h
 cases h
end
structure Rk (S C T : D) : Prop where
 s0 : 0 < len S
 s1 : len S < 1000
 c1 : len C ≤ 4
 t1 : len T ≤ 20
 wt : ∀ i : Nat, i < len S → 0 ≤ (cl S i 2).toInt ∧ (cl S i 2).toInt ≤ 1048576
 tmo : ∀ i : Nat, i < len T → (cl T i 2).toInt = 3 → 0 < (cl S (fd S (cl T i 0)) 2).toInt
 sne : ∀ i : Nat, i < len S → eqC (cl S i 0) 0 0 = false
 sid : ∀ i : Nat, i < len S → fd S (cl S i 0) = i
 cid : ∀ i : Nat, i < len C → fd C (cl C i 0) = i
 lim : ∀ i : Nat, i < len C → 1 ≤ (cl C i 1).toInt ∧ (cl C i 1).toInt ≤ 1000
 cne : ∀ i : Nat, i < len C → eqC (cl C i 0) 0 0 = false
 cI : ∀ i : Nat, i < len C → ∃ m, cl C i 1 = .int m
 tI : Em T
 frm : ∀ i : Nat, i < len T → 0 ≤ fd S (cl T i 0)
 to : ∀ i : Nat, i < len T → 0 ≤ fd S (cl T i 1)
 ctr : ∀ i : Nat, i < len T → (eqC (cl T i 5) 0 0 = true ∧ fd C (cl T i 5) = -1) ∨ (eqC (cl T i 5) 0 0 = false ∧ 0 ≤ fd C (cl T i 5) ∧ 0 ≤ (cl T i 6).toInt ∧ (cl T i 6).toInt ≤ (cl T i 7).toInt ∧
  (cl T i 7).toInt ≤ (cl C (fd C (cl T i 5)) 1).toInt ∧ -1000 ≤ (cl T i 8).toInt ∧ (cl T i 8).toInt ≤ 1000 ∧ 0 ≤ (cl T i 6).toInt + (cl T i 8).toInt ∧ (cl T i 7).toInt + (cl T i 8).toInt ≤ (cl C (fd C (cl T i 5)) 1).toInt)
section
variable [An]
theorem ao {v0 S C T : D} (h : rok v0 S C T = true) (hc : ∀ i : Nat, i < len C → ∃ m, cl C i 1 = .int m) (ht : Em T) (hS : len S ≤ 8) (hT : len T ≤ 20) : Rk S C T := by
 unfold rok at h;simp only [Bool.and_eq_true] at h;obtain ⟨_, h1, h2, h3⟩ := h;unfold Jh at h1;unfold HK at h2;unfold I5 at h3;by_cases c1 : 4 < (len C : Int)
 ·rw [ifT c1] at h1; cases h1
 rw [ifF c1] at h1;by_cases c2 : (len S : Int) < 1
 ·rw [ifT c2] at h2; cases h2
 rw [ifF c2, ifF (by omega)] at h2
 rw [ifF (by omega)] at h3
 have B1 : ∀ i, i < len C → Li C i = false := fun i hi => OJ (k := len C) (i := 0) (by omega) (.inr ⟨dT h1, by omega⟩)
 have B2 : ∀ i, i < len S → Jt S i = false := fun i hi => OJ (k := len S) (i := 0) (by omega) (.inr ⟨dT h2, by omega⟩)
 have B3 : ∀ i, i < len T → Gq v0 S C T i = false := fun i hi => OJ (k := len T) (i := 0) (by omega) (.inr ⟨dT h3, by omega⟩)
 have E1 : ∀ i, i < len C → nm (cl C i 0) = true ∧ fd C (cl C i 0) = i ∧ 1 ≤ (cl C i 1).toInt ∧ (cl C i 1).toInt ≤ 1000 := fun i hi => by
  have b := B1 i hi;unfold Li at b;simp only [Bool.or_eq_false_iff, Bool.not_eq_false'] at b;have s := Ko hi;have b2 := dF b.1.1.2;have b3 := dF b.1.2;have b4 := dF b.2;exact ⟨b.1.1.1, by omega, by omega, by omega⟩
 have ne : ∀ i, i < len C → eqC (cl C i 0) 0 0 = false := fun i hi => by
  rw [Dk];have := VW (E1 i hi).1;exact decide_eq_false (by omega)
 refine ⟨by omega, by omega, by omega, hT, fun i hi => ?_, fun i hi h3 => ?_, fun i hi => ?_, fun i hi => ?_, fun i hi => (E1 i hi).2.1, fun i hi => (E1 i hi).2.2, ne, hc, ht, fun i hi => ?_, fun i hi => ?_, fun i hi => ?_⟩
 ·have b := B2 i hi;unfold Jt at b;simp only [Bool.or_eq_false_iff] at b;have b2 := dF b.1.2;have b3 := dF b.2;omega
 ·have b := B3 i hi;unfold Gq at b;simp only [Bool.or_eq_false_iff] at b;have b := b.2.2.2.1;unfold PN at b;rw [ifF (by omega), ifF (by omega), ifT h3] at b
  cases q1 : eqC (cl T i 3) 0 0
  ·rw [q1] at b; cases b
  cases q2 : eqC (cl T i 4) 0 0
  ·rw [q1, q2] at b; cases b
  rw [q1, q2] at b;simp only [cond_true, Bool.not_eq_false'] at b;exact dT b
 ·have b := B2 i hi;unfold Jt at b;simp only [Bool.or_eq_false_iff, Bool.not_eq_false'] at b;rw [Dk];have := VW b.1.1.1;exact decide_eq_false (by omega)
 ·have b := B2 i hi;unfold Jt at b;simp only [Bool.or_eq_false_iff] at b;have s := Ko hi;have b2 := dF b.1.1.2;omega
 ·have b := B3 i hi;unfold Gq at b;simp only [Bool.or_eq_false_iff] at b;exact Int.not_lt.1 (dF b.1)
 ·have b := B3 i hi;unfold Gq at b;simp only [Bool.or_eq_false_iff] at b;exact Int.not_lt.1 (dF b.2.1)
 ·have b := B3 i hi;unfold Gq at b;simp only [Bool.or_eq_false_iff] at b;have b := b.2.2.2.2;unfold Ya at b;cases hz : eqC (cl T i 5) 0 0
  ·right;rw [hz] at b;simp only [cond_false] at b;by_cases d1 : fd C (cl T i 5) < 0
   ·rw [ifT d1] at b; cases b
   rw [ifF d1] at b;by_cases d2 : (cl T i 6).toInt < 0
   ·rw [ifT d2] at b; cases b
   rw [ifF d2] at b;by_cases d3 : (cl T i 7).toInt < (cl T i 6).toInt
   ·rw [ifT d3] at b; cases b
   rw [ifF d3] at b;by_cases d4 : (cl T i 8).toInt < -1000
   ·rw [ifT d4] at b; cases b
   rw [ifF d4] at b;by_cases d5 : 1000 < (cl T i 8).toInt
   ·rw [ifT d5] at b; cases b
   rw [ifF d5] at b;by_cases d6 : (cl C (fd C (cl T i 5)) 1).toInt < (cl T i 7).toInt
   ·rw [ifT d6] at b; cases b
   rw [ifF d6] at b;have lt := H7 (l := C) (key := cl T i 5);have l := E1 (fd C (cl T i 5)).toNat (by omega)
   rw [show (((fd C (cl T i 5)).toNat : Nat) : Int) = fd C (cl T i 5) by omega] at l
   rw [AJ (by omega) (by omega), AJ (by omega) (by omega)] at b
   by_cases d7 : (cl T i 6).toInt + (cl T i 8).toInt < 0
   ·rw [ifT d7] at b; cases b
   rw [ifF d7] at b;by_cases d8 : (cl C (fd C (cl T i 5)) 1).toInt < (cl T i 7).toInt + (cl T i 8).toInt
   ·rw [ifT d8] at b; cases b
   exact ⟨rfl, by omega, by omega, by omega, by omega, by omega, by omega, by omega, by omega⟩
  ·left;refine ⟨rfl, ?_⟩;rcases ka (l := C) (key := cl T i 5) with g | g
   ·exact g
   exfalso
   have lt := H7 (l := C) (key := cl T i 5);have s := Vc g
   have e : eqC (cl C (fd C (cl T i 5)) 0) 0 0 = eqC (cl T i 5) 0 0 := by
    rw [Dk, Dk];unfold A5;rw [CT.1 s]
   have l := ne (fd C (cl T i 5)).toNat (by omega)
   rw [show (((fd C (cl T i 5)).toNat : Nat) : Int) = fd C (cl T i 5) by omega] at l
   rw [e, hz] at l;cases l
end
end Mb
namespace Mb
open Go Go.AE
def In2 (h : D) (x y : Int) : Prop := ∃ j : Nat, j < len h ∧ (cl h j 0).toInt = x ∧ (cl h j 1).toInt = y
def swp (h : D) (a b : Int) : D := upd (upd (upd (upd h a 0 (cl h b 0)) a 1 (cl h b 1)) b 0 (cl h a 0)) b 1 (cl h a 1)
theorem G8 {h : D} {a b : Int} : len (swp h a b) = len h := by unfold swp; simp only [CS]
theorem V0 {h : D} {a b : Int} (w : Wd h 2) : Wd (swp h a b) 2 := by unfold swp; exact D3 (D3 (D3 (D3 w)))
theorem Vd {h : D} {a b k : Int} {c : Nat} (w : Wd h 2) (a0 : 0 ≤ a) (a1 : a < len h) (b0 : 0 ≤ b) (b1 : b < len h) (k0 : 0 ≤ k) (hc : c < 2) : cl (swp h a b) k c = if k = b then cl h a c else if k = a then cl h b c else cl h k c := by
 have w1 : Wd (upd h a 0 (cl h b 0)) 2 := D3 w;have w2 : Wd (upd (upd h a 0 (cl h b 0)) a 1 (cl h b 1)) 2 := D3 w1;have w3 : Wd (upd (upd (upd h a 0 (cl h b 0)) a 1 (cl h b 1)) b 0 (cl h a 0)) 2 := D3 w2;unfold swp;rw [Eu w3 (by omega) b0 (by simp only [CS]; exact b1) k0, Eu w2 (by omega) b0 (by simp only [CS]; exact b1) k0, Eu w1 (by omega) a0 (by simp only [CS]; exact a1) k0, Eu w (by omega) a0 a1 k0]
 match c, hc with
 | 0, _ =>
  by_cases q : k = b
  ·rw [if_neg (by omega), if_pos ⟨q, rfl⟩, if_pos q]
  ·rw [if_neg (by omega), if_neg (fun c => q c.1), if_neg (by omega), if_neg q]
   by_cases r : k = a
   ·rw [if_pos ⟨r, rfl⟩, if_pos r]
   ·rw [if_neg (fun c => r c.1), if_neg r]
 | 1, _ =>
  by_cases q : k = b
  ·rw [if_pos ⟨q, rfl⟩, if_pos q]
  ·rw [if_neg (fun c => q c.1), if_neg (by omega), if_neg q]
   by_cases r : k = a
   ·rw [if_pos ⟨r, rfl⟩, if_pos r]
   ·rw [if_neg (fun c => r c.1), if_neg (by omega), if_neg r]
theorem V5 {h : D} {a b : Nat} {x y : Int} (w : Wd h 2) (a1 : a < len h) (b1 : b < len h) (hi : In2 h x y) : In2 (swp h a b) x y := by
 obtain ⟨j, j1, e0, e1⟩ := hi;have C : ∀ (k : Nat) (c : Nat), c < 2 → cl (swp h a b) k c = if (k : Int) = b then cl h a c else if (k : Int) = a then cl h b c else cl h k c := fun k c hc => Vd w (by omega) (by omega) (by omega) (by omega) (by omega) hc
 by_cases q : j = a
 ·subst q;exact ⟨b, by rw [G8]; exact b1, by rw [C b 0 (by omega), if_pos rfl]; exact e0, by rw [C b 1 (by omega), if_pos rfl]; exact e1⟩
 by_cases r : j = b
 ·subst r;refine ⟨a, by rw [G8]; exact a1, ?_, ?_⟩
  ·rw [C a 0 (by omega), if_neg (by omega), if_pos rfl]; exact e0
  ·rw [C a 1 (by omega), if_neg (by omega), if_pos rfl]; exact e1
 refine ⟨j, by rw [G8]; exact j1, ?_, ?_⟩
 ·rw [C j 0 (by omega), if_neg (by omega), if_neg (by omega)]; exact e0
 ·rw [C j 1 (by omega), if_neg (by omega), if_neg (by omega)]; exact e1
def EE (h : D) : Prop := ∀ j : Nat, j < len h → ∃ x y, cl h j 0 = .int x ∧ cl h j 1 = .int y
theorem R3 {h : D} {a b : Nat} (w : Wd h 2) (a1 : a < len h) (b1 : b < len h) (hi : EE h) : EE (swp h a b) := by
 have C : ∀ (k : Nat) (c : Nat), c < 2 → cl (swp h a b) k c = if (k : Int) = b then cl h a c else if (k : Int) = a then cl h b c else cl h k c := fun k c hc => Vd w (by omega) (by omega) (by omega) (by omega) (by omega) hc
 intro j j1;rw [G8] at j1;rw [C j 0 (by omega), C j 1 (by omega)]
 by_cases q : (j : Int) = b
 ·simp only [if_pos q]; exact hi a a1
 ·simp only [if_neg q];by_cases r : (j : Int) = a
  ·simp only [if_pos r]; exact hi b b1
  ·simp only [if_neg r]; exact hi j j1
theorem be {h : D} {x y : Int} (hi : EE h) : EE (ad h (.row [.int x, .int y])) := by
 intro j j1;rw [B7] at j1;rw [Dg (by omega), Dg (by omega)]
 by_cases q : (j : Int) = len h
 ·simp only [if_pos q]; exact ⟨x, y, rfl, rfl⟩
 ·simp only [if_neg q]; exact hi j (by omega)
theorem jn {a : D} {lo hi : Int} {n : Nat} (h : Wd a n) : Wd (sb a lo hi) n := fun r hr => h r (List.mem_of_mem_drop (List.mem_of_mem_take hr))
theorem w1 : IntKind.wrap .i64 (0 + 1) = 1 := rfl
theorem w2 : IntKind.wrap .i64 (1 + 1) = 2 := rfl
theorem W2 {x : Int} (h0 : 0 ≤ x) (h1 : x < 4611686018427387904) : ari .quo .i64 x 2 = x / 2 := by
 have e : ari .quo .i64 x 2 = IntKind.wrap .i64 (x.tdiv 2) := by unfold ari; rfl
 rw [e, Int.tdiv_eq_ediv_of_nonneg h0, AJ (by omega) (by omega)]
section
variable [An]
theorem Y2 {n i l c1 c2 : Nat} {v4 : Int} {v5 h v8 : D} {b : Bool} (hn : len h = n) (hl : l < n ∨ c2 ≥ n) : ∃ l' : Nat, (l' = l ∨ l' = c2 ∧ c2 < n) ∧ BG (.int n) (.int i) (.int l) (.int 1) (.int v4) v5 h (.bool b) v8 (.int c1) (.int c2) = BG (.int n) (.int i) (.int l') (.int 2) (.int v4) v5 h (.bool b) v8 (.int c1) (.int c2) := by
 rw [Sp, ifT (by omega), ifF (by omega), ifT rfl]
 by_cases q : c2 < n
 ·rw [ifT (by omega), ifF (by omega), ifT (by omega), ifF (by omega), ifT (by omega), w2]
  cases decide ((cl h c2 0).toInt < (cl h l 0).toInt) <;> cases decide ((cl h c2 1).toInt < (cl h l 1).toInt) <;> cases decide ((cl h l 1).toInt < (cl h c2 1).toInt) <;> cases decide ((cl h l 0).toInt < (cl h c2 0).toInt) <;>
   first | exact ⟨l, .inl rfl, rfl⟩ | exact ⟨c2, .inr ⟨rfl, q⟩, rfl⟩
 ·rw [ifF (by omega), w2]
  exact ⟨l, .inl rfl, rfl⟩
theorem YJ {n i l c1 c2 : Nat} {v4 : Int} {v5 h v8 : D} {b : Bool} (hn : len h = n) (hl : l < n ∨ c1 ≥ n) : ∃ l' : Nat, (l' = l ∨ l' = c1 ∧ c1 < n) ∧ BG (.int n) (.int i) (.int l) (.int 0) (.int v4) v5 h (.bool b) v8 (.int c1) (.int c2) = BG (.int n) (.int i) (.int l') (.int 1) (.int v4) v5 h (.bool b) v8 (.int c1) (.int c2) := by
 rw [Sp, ifT (by omega), ifT rfl]
 by_cases q : c1 < n
 ·rw [ifT (by omega), ifF (by omega), ifT (by omega), ifF (by omega), ifT (by omega), w1]
  cases decide ((cl h c1 0).toInt < (cl h l 0).toInt) <;> cases decide ((cl h c1 1).toInt < (cl h l 1).toInt) <;> cases decide ((cl h l 1).toInt < (cl h c1 1).toInt) <;> cases decide ((cl h l 0).toInt < (cl h c1 0).toInt) <;>
   first | exact ⟨l, .inl rfl, rfl⟩ | exact ⟨c1, .inr ⟨rfl, q⟩, rfl⟩
 ·rw [ifF (by omega), w1]
  exact ⟨l, .inl rfl, rfl⟩
theorem Vx {n : Nat} (hn : n < 1000000) {v2 : Int} {v3 v6 : D} {b : Bool} : ∀ (k i : Nat) (h : D), n ≤ i + k → i ≤ n → len h = n → Wd h 2 → ∃ h', SH (.int n) (.int i) (.int v2) v3 h (.bool b) v6 = .row [.int 1, h', .bool b] ∧ Wd h' 2 ∧ len h' = n ∧ (EE h → EE h') ∧ ∀ x y, In2 h x y → In2 h' x y := by
 intro k
 induction k with
 | zero =>
  intro i h hk hi hl w;have : i = n := by omega
  subst this;rw [YK, AJ (a := 2 * (i : Int)) (by omega) (by omega), AJ (by omega) (by omega), AJ (by omega) (by omega)]
  obtain ⟨l1, c1, q1⟩ := YJ (n := i) (i := i) (l := i) (c1 := 2 * i + 1) (c2 := 2 * i + 2) (v4 := v2) (v5 := v3) (h := h) (v8 := v6) (b := b) hl (.inr (by omega))
  have c1 : l1 = i := by omega
  subst c1;obtain ⟨l2, c2, q2⟩ := Y2 (n := l1) (i := l1) (l := l1) (c1 := 2 * l1 + 1) (c2 := 2 * l1 + 2) (v4 := v2) (v5 := v3) (h := h) (v8 := v6) (b := b) hl (.inr (by omega))
  have c2 : l2 = l1 := by omega
  subst c2;have E := q1.trans q2;refine ⟨h, ?_, w, hl, id, fun _ _ q => q⟩
  show BG (.int (l2 : Nat)) (.int (l2 : Nat)) (.int (l2 : Nat)) (.int 0) (.int v2) v3 h (.bool b) v6 (.int ((2 * l2 + 1 : Nat) : Int)) (.int ((2 * l2 + 2 : Nat) : Int)) = _;rw [E, Sp, ifF (by omega), ifT rfl]
 | succ k ih =>
  intro i h hk hi hl w;rw [YK, AJ (a := 2 * (i : Int)) (by omega) (by omega), AJ (by omega) (by omega), AJ (by omega) (by omega)]
  obtain ⟨l1, c1, q1⟩ := YJ (n := n) (i := i) (l := i) (c1 := 2 * i + 1) (c2 := 2 * i + 2) (v4 := v2) (v5 := v3) (h := h) (v8 := v6) (b := b) hl (by omega)
  obtain ⟨l2, c2, q2⟩ := Y2 (n := n) (i := i) (l := l1) (c1 := 2 * i + 1) (c2 := 2 * i + 2) (v4 := v2) (v5 := v3) (h := h) (v8 := v6) (b := b) hl (by omega)
  have E := q1.trans q2;have E' : BG (.int (n : Nat)) (.int (i : Nat)) (.int (i : Nat)) (.int 0) (.int v2) v3 h (.bool b) v6 (.int (2 * (i : Int) + 1)) (.int (2 * (i : Int) + 2)) = BG (.int (n : Nat)) (.int (i : Nat)) (.int (l2 : Nat)) (.int 2) (.int v2) v3 h (.bool b) v6 (.int (2 * i + 1 : Nat)) (.int (2 * i + 2 : Nat)) := E;rw [E', Sp, ifF (by omega)]
  by_cases q : l2 = i
  ·rw [ifT (by omega)]
   exact ⟨h, rfl, w, hl, id, fun _ _ q => q⟩
  ·rw [ifF (by omega), ifF (by omega), ifT (by omega), ifF (by omega), ifT (by omega)]
   obtain ⟨h', r1, r2, r3, r5, r4⟩ := ih l2 (swp h i l2) (by omega) (by omega) (by rw [G8]; exact hl) (V0 w)
   exact ⟨h', r1, r2, r3, fun hi => r5 (R3 w (by omega) (by omega) hi), fun x y hi => r4 x y (V5 w (by omega) (by omega) hi)⟩
theorem UH {v0 : Int} {v1 v2 h : D} {b : Bool} (w : Wd h 2) (h0 : 0 < len h) (h1 : len h < 1000000) : ∃ h', GI (.int v0) v1 v2 h (.bool b) = .row [.int 1, h', .bool b] ∧ Wd h' 2 ∧ len h' = len h - 1 ∧ (EE h → EE h') ∧ ∀ x y, In2 h x y → ¬ ((cl h 0 0).toInt = x ∧ (cl h 0 1).toInt = y) → In2 h' x y := by
 have e : IntKind.wrap .i64 ((len h : Int) - 1) = ((len h - 1 : Nat) : Int) := by rw [AJ (by omega) (by omega)]; omega
 generalize hm : len h - 1 = m at e;rw [ci, e, ifF (by omega), ifT (by omega), ifT (by omega), ifF (by simp only [CS]; omega)]
 have wa : Wd (upd h 0 0 (cl h m 0)) 2 := D3 w;have wb : Wd (upd (upd h 0 0 (cl h m 0)) 0 1 (cl h m 1)) 2 := D3 wa
 have C : ∀ (k c : Nat), c < 2 → cl (upd (upd h 0 0 (cl h m 0)) 0 1 (cl h m 1)) k c = if k = 0 then cl h m c else cl h k c := by
  intro k c hc;rw [Eu wa (by omega) (by omega) (by simp only [CS]; omega) (by omega), Eu w (by omega) (by omega) (by omega) (by omega)]
  match c, hc with
  | 0, _ =>
   by_cases q : k = 0
   ·rw [if_neg (by omega), if_pos (by omega), if_pos q]
   ·rw [if_neg (by omega), if_neg (by omega), if_neg q]
  | 1, _ =>
   by_cases q : k = 0
   ·rw [if_pos (by omega), if_pos q]
   ·rw [if_neg (by omega), if_neg (by omega), if_neg q]
 have lg : len (upd (upd h 0 0 (cl h m 0)) 0 1 (cl h m 1)) = len h := by simp only [CS]
 generalize upd (upd h 0 0 (cl h m 0)) 0 1 (cl h m 1) = g at wb C lg
 have ls : len (sb g 0 m) = m := by
  have := Wp (a := g) (lo := 0) (hi := (m : Int)) (by omega) (by omega)
  omega
 obtain ⟨h', r1, r2, r3, r5, r4⟩ := Vx (n := m) (by omega) (v2 := v0) (v3 := v2) (v6 := v1) (b := b) m 0 (sb g 0 m) (by omega) (by omega) ls (jn wb)
 refine ⟨h', r1, r2, by omega, fun hi => r5 (fun j j1 => ?_), fun x y hi hne => r4 x y ?_⟩
 ·rw [KS (by omega) (by omega), KS (by omega) (by omega), C j 0 (by omega), C j 1 (by omega)]
  by_cases q : j = 0
  ·simp only [if_pos q]; exact hi m (by omega)
  ·simp only [if_neg q]; exact hi j (by omega)
 obtain ⟨j, j1, e0, e1⟩ := hi
 have j0 : j ≠ 0 := fun c => by
  subst c;exact hne ⟨e0, e1⟩
 by_cases q : j = m
 ·subst q;refine ⟨0, by omega, ?_, ?_⟩
  ·rw [KS (by omega) (by omega), C 0 0 (by omega), if_pos rfl]; exact e0
  ·rw [KS (by omega) (by omega), C 0 1 (by omega), if_pos rfl]; exact e1
 ·refine ⟨j, by omega, ?_, ?_⟩
  ·rw [KS (by omega) (by omega), C j 0 (by omega), if_neg j0]; exact e0
  ·rw [KS (by omega) (by omega), C j 1 (by omega), if_neg j0]; exact e1
theorem Y5 {h : D} {x y : Int} : (∀ a b, In2 h a b → In2 (ad h (.row [.int x, .int y])) a b) ∧ In2 (ad h (.row [.int x, .int y])) x y := by
 refine ⟨fun a b hi => ?_, len h, by rw [B7]; omega, ?_, ?_⟩
 ·obtain ⟨j, j1, e0, e1⟩ := hi;refine ⟨j, by rw [B7]; omega, ?_, ?_⟩
  ·rw [Dg (by omega), if_neg (by omega)]; exact e0
  ·rw [Dg (by omega), if_neg (by omega)]; exact e1
 ·rw [Dg (by omega), if_pos rfl]; rfl
 ·rw [Dg (by omega), if_pos rfl]; rfl
theorem Up {n : Nat} (hn : n < 1000000) {t : Int} {v2 v4 : D} {b : Bool} : ∀ (k i : Nat) (h : D), i ≤ k → i < n → len h = n → Wd h 2 → ∃ h', J0 (.int i) (.int t) v2 h (.bool b) v4 = .row [.int 1, h', .bool b] ∧ Wd h' 2 ∧ len h' = n ∧ (EE h → EE h') ∧ ∀ x y, In2 h x y → In2 h' x y := by
 intro k
 induction k with
 | zero =>
  intro i h hk hi hl w;have : i = 0 := by omega
  subst this;rw [Zn, ifF (by omega)]
  exact ⟨h, rfl, w, hl, id, fun _ _ q => q⟩
 | succ k ih =>
  intro i h hk hi hl w;rw [Zn];by_cases q : 0 < (i : Int)
  ·have e : ari .quo .i64 (IntKind.wrap .i64 ((i : Int) - 1)) 2 = (((i - 1) / 2 : Nat) : Int) := by
    rw [AJ (by omega) (by omega), W2 (by omega) (by omega)]; omega
   rw [e];generalize hu : (i - 1) / 2 = u
   have R : ∃ h', J0 (.int u) (.int t) v2 (swp h u i) (.bool b) v4 = .row [.int 1, h', .bool b] ∧ Wd h' 2 ∧ len h' = n ∧ (EE h → EE h') ∧ ∀ x y, In2 h x y → In2 h' x y := by
    obtain ⟨h', r1, r2, r3, r5, r4⟩ := ih u (swp h u i) (by omega) (by omega) (by rw [G8]; exact hl) (V0 w)
    exact ⟨h', r1, r2, r3, fun hi => r5 (R3 w (by omega) (by omega) hi), fun x y hi => r4 x y (V5 w (by omega) (by omega) hi)⟩
   have S : ∃ h', D.row [.int 1, h, .bool b] = .row [.int 1, h', .bool b] ∧ Wd h' 2 ∧ len h' = n ∧ (EE h → EE h') ∧ ∀ x y, In2 h x y → In2 h' x y := ⟨h, rfl, w, hl, id, fun _ _ q => q⟩
   rw [ifT q, ifF (by omega), ifT (by omega), ifT (by omega)]
   cases decide ((cl h u 0).toInt < (cl h i 0).toInt) <;> cases decide ((cl h u 1).toInt < (cl h i 1).toInt) <;> cases decide ((cl h i 1).toInt < (cl h u 1).toInt) <;> cases decide ((cl h i 0).toInt < (cl h u 0).toInt) <;> first | exact S | exact R
  ·rw [ifF q];exact ⟨h, rfl, w, hl, id, fun _ _ q => q⟩
theorem ZR {t x y : Int} {v1 v2 : D} {h : D} {b : Bool} (w : Wd h 2) (h1 : len h < 1000) : ∃ h', ET (.int t) v1 v2 h (.bool b) (.int x) (.int y) = .row [.int 1, h', .bool false] ∧ Wd h' 2 ∧ len h' = len h + 1 ∧ (EE h → EE h') ∧ (∀ a b, In2 h a b → In2 h' a b) ∧ In2 h' x y := by
 have e : IntKind.wrap .i64 ((len (ad h (.row [.int x, .int y])) : Int) - 1) = ((len h : Nat) : Int) := by rw [B7, AJ (by omega) (by omega)]; omega
 rw [dk, ifT (by omega), e]
 have hw : Wd (ad h (.row [.int x, .int y])) 2 := VX w rfl;obtain ⟨h', r1, r2, r3, r5, r4⟩ := Up (n := len h + 1) (by omega) (t := t) (v2 := v2) (v4 := v1) (b := false) (len h) (len h) (ad h (.row [.int x, .int y])) (by omega) (by omega) (by rw [B7]) hw
 exact ⟨h', r1, r2, by omega, fun hi => r5 (be hi), fun a b hi => r4 a b (Y5.1 a b hi), r4 x y Y5.2⟩
end
end Mb

