/- What is proved: what the plain functions over data say, whose trees the text before writes out: the law MachineRepeats answers true. Conditions: those that each theorem states. -/
import Derived.Test.YthkffgljlhjggaaMachineRepeatsTree
set_option linter.unusedVariables false
set_option linter.unusedSectionVars false
set_option linter.unusedSimpArgs false
namespace Go.AE
section
variable [Ao]
def atV (Ts : List (List (Tr Plf))) (xs : List D) : Val := Ho (An Ts) xs
def fin (Ts : List (List (Tr Plf))) (k : Nat) (V : Val) : Plf → D
 | .stuck => .row []
 | .done s cs => .row (.int (s + 1 : Nat) :: cs.map (Ab V))
 | .next j θ => An Ts k (.row (.int j :: θ.map (Ab V)))
def Ph (Ts : List (List (Tr Plf))) (k : Nat) (V : Val) (t : Tr Plf) : D := fin Ts k V (t.get V)
theorem eE {Ts : List (List (Tr Plf))} (h : Dr 0 Ts = true) {k p : Nat} {T : List (Tr Plf)} {t : Tr Plf} {xs : List D} (hk : Ts[k]? = some T) (hp : T[p]? = some t) :
  An Ts k (.row (.int (p : Nat) :: xs)) = Ph Ts k (atV Ts xs) t := by
 have hd : Bv T (An Ts) (.row (.int (p : Nat) :: xs)) = B6 (atV Ts xs) (t.get (atV Ts xs)) := by
  show (match T[p]? with | some t => B6 _ (t.get _) | none => none) = _
  rw [hp];rfl
 unfold Ph fin;split
 ·rename_i e;rw [e] at hd;rw [Ap h hk];rcases DJ (Bv T (An Ts)) (.row (.int (p : Nat) :: xs)) with q | ⟨n, q⟩
  ·exact q
  ·cases n with
   | zero => cases q
   | succ n =>
    simp only [EU, hd] at q;cases q
 ·rename_i e;rw [e] at hd;rw [Ap h hk];exact Oi hd
 ·rename_i e;rw [e] at hd;rw [Ap h hk, NC hd, ← Ap h hk]
theorem P4 {Ts : List (List (Tr Plf))} {k : Nat} {V : Val} {e : SB} {a b : Tr Plf} : Ph Ts k V (.split e a b) = if Af V e = true then Ph Ts k V a else Ph Ts k V b := by
 unfold Ph;rw [show (Tr.split e a b).get V = match Af V e with | true => a.get V | false => b.get V from rfl]
 cases Af V e <;> rfl
end
theorem AT {a : Int} (h : -9223372036854775808 ≤ a) (h' : a < 9223372036854775808) : IntKind.wrap .i64 a = a := by
 show (if (true && decide (a % (2 ^ 64 : Int) ≥ 2 ^ 63)) = true then a % (2 ^ 64 : Int) - 2 ^ 64 else a % (2 ^ 64 : Int)) = a
 split
 ·rename_i q;simp only [Bool.true_and, decide_eq_true_eq] at q;omega
 ·rename_i q;simp only [Bool.true_and, decide_eq_true_eq] at q;omega
def len (d : D) : Nat := d.rows.length
def A1 (d : D) : Nat := d.toStr.data.toList.length
def cl (a : D) (i : Int) (j : Nat) : D := (a.rows.getD i.toNat default).cells.getD j default
def sl (a : D) (j : Nat) : D := a.cells.getD j default
def AN : D := .slc true []
def AZ : D := .slc false []
def ad (a r : D) : D := .slc false (a.rows ++ [r])
def upd (a : D) (i : Int) (j : Nat) (x : D) : D := .slc a.isNil (a.rows.modify i.toNat fun r => .row (r.cells.set j x))
def ct (a b : D) : D := .slc (a.isNil && b.rows.isEmpty) (a.rows ++ b.rows)
def sb (a : D) (lo hi : Int) : D := .slc a.isNil ((a.rows.drop lo.toNat).take (hi.toNat - lo.toNat))
def Ni (l b : Nat) : D := .str ⟨(CQ l b).toArray⟩
def Vv (a b : D) : D := .str (a.toStr ++ b.toStr)
def Oc (a : D) : D := .slc false (a.toStr.data.toList.map fun b => .row [.int b.toNat])
def mIx (ks : List Kd) (a k : D) : Int := Gy ks k.cells a.rows 0
def Je (a : D) (i : Int) : D := .slc a.isNil (a.rows.eraseIdx i.toNat)
def sAt (a : D) (i : Int) : Int := ((a.toStr.data.toList[i.toNat]?).getD 0).toNat
def eqC (a : D) (l b : Nat) : Bool := strEq a.toStr.data.toList.length (Ay a.toStr.data.toList) l b
def ari (op : BinOp) (k : IntKind) (x y : Int) : Int := match C1 op k x y with
 | some (.int _ n) => n
 | _ => 0
theorem ifT {α : Type} {p : Prop} [Decidable p] {a b : α} (h : p) : cond (decide p) a b = a := by rw [decide_eq_true h]; rfl
theorem ifF {α : Type} {p : Prop} [Decidable p] {a b : α} (h : ¬ p) : cond (decide p) a b = b := by rw [decide_eq_false h]; rfl
theorem cT {α : Type} {c : Bool} {a b : α} (h : c = true) : cond c a b = a := by rw [h]; rfl
theorem cF {α : Type} {c : Bool} {a b : α} (h : c = false) : cond c a b = b := by rw [h]; rfl
section
variable [Ao]
def Dx (Ts : List (List (Tr Plf))) (k : Nat) (V : Val) : Tr Plf → D
 | .leaf l => fin Ts k V l
 | .split e a b => cond (Af V e) (Dx Ts k V a) (Dx Ts k V b)
theorem H6 {Ts : List (List (Tr Plf))} {k : Nat} {V : Val} : ∀ t : Tr Plf, Ph Ts k V t = Dx Ts k V t
 | .leaf l => rfl
 | .split e a b => by
  rw [P4, H6 a, H6 b, Dx];cases Af V e <;> rfl
theorem Xt {Ts : List (List (Tr Plf))} (h : Dr 0 Ts = true) {k p : Nat} {T : List (Tr Plf)} {t : Tr Plf} {xs : List D} (hk : Ts[k]? = some T) (hp : T[p]? = some t) :
  An Ts k (.row (.int (p : Nat) :: xs)) = Dx Ts k (atV Ts xs) t := (eE h hk hp).trans (H6 t)
theorem cg {Ts : List (List (Tr Plf))} {k : Nat} {V : Val} {e : SB} {a b : Tr Plf} {c : Bool} {x y : D} (h : Af V e = c) (ha : Dx Ts k V a = x) (hb : Dx Ts k V b = y) : Dx Ts k V (.split e a b) = cond c x y := by
 rw [Dx, h, ha, hb]
end
theorem lE {V : Val} {a b : SE} {x y : Int} (h : (Ab V a).toInt = x) (h' : (Ab V b).toInt = y) : Af V (.lss a b) = decide (x < y) := by rw [← h, ← h']; rfl
theorem qE {V : Val} {a b : SE} {x y : Int} (h : (Ab V a).toInt = x) (h' : (Ab V b).toInt = y) : Af V (.eql a b) = decide (x = y) := by rw [← h, ← h']; rfl
section
variable [Ao]
theorem cL {Ts : List (List (Tr Plf))} {k : Nat} {V : Val} {e f : SE} {a b : Tr Plf} {m n : Int} {x y : D} (ha : Dx Ts k V a = x) (hb : Dx Ts k V b = y) (h : (Ab V e).toInt = m := by rfl) (h' : (Ab V f).toInt = n := by rfl) : Dx Ts k V (.split (.lss e f) a b) = cond (decide (m < n)) x y := cg (lE h h') ha hb
theorem cQ {Ts : List (List (Tr Plf))} {k : Nat} {V : Val} {e f : SE} {a b : Tr Plf} {m n : Int} {x y : D} (ha : Dx Ts k V a = x) (hb : Dx Ts k V b = y) (h : (Ab V e).toInt = m := by rfl) (h' : (Ab V f).toInt = n := by rfl) : Dx Ts k V (.split (.eql e f) a b) = cond (decide (m = n)) x y := cg (qE h h') ha hb
end
theorem aE {V : Val} {a b : SE} {x y : Bool} (h : Af V a = x) (h' : Af V b = y) : Af V (.and a b) = (x && y) := by rw [← h, ← h']; rfl
def Wd (a : D) (n : Nat) : Prop := ∀ r ∈ a.rows, ∃ cs, r = .row cs ∧ cs.length = n
theorem DF {a x : D} {i : Int} {j : Nat} : len (upd a i j x) = len a := by
 show (a.rows.modify _ _).length = _;simp [len]
theorem BD {a r : D} : len (ad a r) = len a + 1 := by
 show (a.rows ++ [r]).length = _;simp [len]
theorem CO : len AN = 0 := rfl
theorem Tg {a : D} {lo hi : Int} (h : lo.toNat ≤ hi.toNat) (h' : hi.toNat ≤ len a) : len (sb a lo hi) = hi.toNat - lo.toNat := by
 show ((a.rows.drop _).take _).length = _;have : hi.toNat ≤ a.rows.length := h';simp;omega
theorem Bt {x : D} {l : List D} : sl (.row (x :: l)) 0 = x := rfl
theorem Bs {x : D} {l : List D} {n : Nat} : sl (.row (x :: l)) (n + 1) = sl (.row l) n := rfl
theorem Az {n : Int} : (D.int n).toInt = n := rfl
theorem A9 {b : Bool} : (D.bool b).toBool = b := rfl
theorem JA {n : Nat} : Wd AN n := fun r hr => (by cases hr)
theorem Uz {a : D} {cs : List D} {n : Nat} (h : Wd a n) (hc : cs.length = n) : Wd (ad a (.row cs)) n := by
 intro r hr;have hr : r ∈ a.rows ++ [.row cs] := hr;rcases List.mem_append.1 hr with q | q
 ·exact h r q
 ·exact ⟨cs, List.mem_singleton.1 q, hc⟩
theorem DY {a x : D} {i : Int} {j n : Nat} (h : Wd a n) : Wd (upd a i j x) n := by
 intro r hr;have hr' : r ∈ a.rows.modify i.toNat fun r => .row (r.cells.set j x) := hr
 obtain ⟨k, hk, e⟩ := List.getElem_of_mem hr';rw [List.getElem_modify] at e;have hk' : k < a.rows.length := by simpa using hk
 obtain ⟨cs, hc, hn⟩ := h _ (List.getElem_mem hk');split at e
 ·rw [hc] at e;exact ⟨_, e.symm, by simp [D.cells, hn]⟩
 ·exact ⟨cs, by rw [← e]; exact hc, hn⟩
theorem Eu {a x : D} {i k : Int} {j j' n : Nat} (h : Wd a n) (hj : j < n) (hi : 0 ≤ i) (hi' : i < len a) (hk : 0 ≤ k) : cl (upd a i j x) k j' = if k = i ∧ j' = j then x else cl a k j' := by
 have hi2 : i.toNat < a.rows.length := by have : len a = a.rows.length := rfl; omega
 show ((a.rows.modify i.toNat fun r => D.row (r.cells.set j x))[k.toNat]?.getD default).cells.getD j' default = _
 rw [List.getElem?_modify];by_cases q : k = i
 ·subst q;obtain ⟨cs, hc, hn⟩ := h _ (List.getElem_mem hi2);rw [List.getElem?_eq_getElem hi2];show ((if k.toNat = k.toNat then D.row ((a.rows[k.toNat]).cells.set j x) else a.rows[k.toNat]).cells[j']?).getD default = _
  rw [if_pos rfl, hc];show ((cs.set j x)[j']?).getD default = _;rw [List.getElem?_set];by_cases q' : j = j'
  ·subst q';rw [if_pos rfl, if_pos (by omega), if_pos ⟨rfl, rfl⟩]
   rfl
  ·rw [if_neg q', if_neg (fun c => q' c.2.symm)]
   show _ = (a.rows[k.toNat]?.getD default).cells.getD j' default;rw [List.getElem?_eq_getElem hi2, Option.getD_some, hc];rfl
 ·have q2 : ¬ i.toNat = k.toNat := by omega
  rw [if_neg (fun c => q c.1)]
  simp [q2, cl]
theorem BW {a r : D} {k : Int} {j : Nat} (hk : 0 ≤ k) : cl (ad a r) k j = if k = len a then sl r j else cl a k j := by
 have hl : len a = a.rows.length := rfl;show ((a.rows ++ [r])[k.toNat]?.getD default).cells.getD j default = _;by_cases q : k.toNat < a.rows.length
 ·rw [List.getElem?_append_left q, if_neg (by omega)]
  rfl
 ·by_cases q' : k = len a
  ·subst q';rw [if_pos rfl];have : ((len a : Int)).toNat = a.rows.length := by omega
   rw [this];simp [sl]
  ·rw [if_neg q', List.getElem?_eq_none (by simp; omega)]
   show _ = (a.rows[k.toNat]?.getD default).cells.getD j default;rw [List.getElem?_eq_none (by omega)]
theorem UE {P : Program} {ts : List TypeId} {xs : List D} {ks : List Kd} (h : Hx P ts xs) (hk : AC (Env.of P) ts = some ks) : ks.length = xs.length ∧ KI (Env.of P).kinds 9 ks xs := by
 obtain ⟨ks', cs, M, e, hd, _, hc⟩ := h;rw [hk] at e;cases e;exact ⟨hd.len.2, hc⟩
theorem W3 {x c : Int} {l : List D} (h : x ≠ c) : ¬ (sl (.row (.int x :: l)) 0).toInt = c := h
theorem EP.cell {K : TypeId → Option (List Kd)} {m j : Nat} {e : TypeId} {ks : List Kd} {kd : Kd} {d : D} {i : Int} (h : EP K (m + 1) (.slice e) d) (hk : K e = some ks) (h0 : 0 ≤ i) (hi : i < len d) (hj : ks[j]? = some kd) : EP K m kd (cl d i j) := by
 obtain ⟨nl, rows, rfl, _, q⟩ := h;have hi' : i.toNat < rows.length := by have : len (.slc nl rows) = rows.length := rfl; omega
 obtain ⟨cs, e1, _, e3⟩ := q ks hk _ (List.getElem_mem hi');show EP K m kd ((rows[i.toNat]?.getD default).cells.getD j default);rw [List.getElem?_eq_getElem hi', Option.getD_some, e1];exact e3 j kd hj
theorem EP.toI {K : TypeId → Option (List Kd)} {m : Nat} {k : IntKind} {d : D} (h : EP K m (.int k) d) : ∃ n, d = .int n := by cases m <;> exact h
theorem EP.toB {K : TypeId → Option (List Kd)} {m : Nat} {d : D} (h : EP K m .bool d) : ∃ b, d = .bool b := by cases m <;> exact h
theorem EP.wd {K : TypeId → Option (List Kd)} {m : Nat} {e : TypeId} {ks : List Kd} {d : D} (h : EP K (m + 1) (.slice e) d) (hk : K e = some ks) : Wd d ks.length := by
 obtain ⟨nl, rows, rfl, _, q⟩ := h;intro r hr;obtain ⟨cs, e1, e2, _⟩ := q ks hk r hr;exact ⟨cs, e1, e2⟩
def fdG (p : Nat → Bool) : Nat → Nat → Int
 | 0, _ => -1
 | k + 1, i => cond (p i) (i : Int) (fdG p k (i + 1))
theorem MO {p : Nat → Bool} : ∀ {k i : Nat}, fdG p k i < i + k
 | 0, i => by show (-1 : Int) < _; omega
 | k + 1, i => by
  rw [fdG];have := MO (p := p) (k := k) (i := i + 1);cases p i
  ·show fdG p k (i + 1) < _; omega
  ·show (i : Int) < _; omega
theorem MT {p : Nat → Bool} : ∀ {k i : Nat}, fdG p k i = -1 ∨ (i : Int) ≤ fdG p k i
 | 0, i => .inl rfl
 | k + 1, i => by
  rw [fdG];cases p i
  ·show fdG p k (i + 1) = _ ∨ _ ≤ fdG p k (i + 1);rcases MT (p := p) (k := k) (i := i + 1) with h | h
   ·exact .inl h
   ·exact .inr (by omega)
  ·exact .inr (Int.le_refl _)
theorem PO {p : Nat → Bool} : ∀ {k i : Nat}, 0 ≤ fdG p k i → p (fdG p k i).toNat = true
 | 0, i => fun h => by simp [fdG] at h
 | k + 1, i => by
  rw [fdG];cases q : p i
  ·exact PO (k := k)
  ·intro _;show p i = true;exact q
theorem P9 {p : Nat → Bool} : ∀ {k i j : Nat}, i ≤ j → j < i + k → p j = true → 0 ≤ fdG p k i ∧ fdG p k i ≤ j
 | 0, i, j => fun h h' => by omega
 | k + 1, i, j => by
  intro h h' hp;rw [fdG];cases q : p i
  ·have : i ≠ j := fun c => by rw [c, hp] at q; cases q
   exact P9 (k := k) (by omega) (by omega) hp
  ·show 0 ≤ (i : Int) ∧ (i : Int) ≤ j; omega
theorem Na {p : Nat → Bool} {k i j : Nat} (h : i ≤ j) (h' : (j : Int) < fdG p k i ∨ (fdG p k i < 0 ∧ j < i + k)) : p j = false := by
 cases q : p j
 ·rfl
 ·have := MO (p := p) (k := k) (i := i);have := P9 (p := p) (k := k) h (by omega) q
  omega
theorem VX {p : Nat → Bool} {k i : Nat} (h : ∀ j, i ≤ j → j < i + k → p j = false) : fdG p k i = -1 := by
 rcases MT (p := p) (k := k) (i := i) with q | q
 ·exact q
 ·have a := PO (p := p) (k := k) (i := i) (by omega)
  rw [h _ (by omega) (by have := MO (p := p) (k := k) (i := i); omega)] at a
  cases a
theorem Ik {p q : Nat → Bool} : ∀ {k i : Nat}, (∀ j, i ≤ j → j < i + k → p j = q j) → fdG p k i = fdG q k i
 | 0, i, h => rfl
 | k + 1, i, h => by
  rw [fdG, fdG, h i (Nat.le_refl _) (by omega), Ik fun j a b => h j (by omega) (by omega)]
theorem Wg {F : Nat → D} {bad : Nat → Bool} {B : Nat → D} {n : Nat} : ∀ {k i : Nat}, i + k = n → (∀ j, i ≤ j → j < n → F j = cond (bad j) (B j) (F (j + 1))) → F i = cond (decide (fdG bad k i < 0)) (F n) (B (fdG bad k i).toNat)
 | 0, i => fun h _ => by
  have : i = n := by omega
  subst this;rfl
 | k + 1, i => fun h hs => by
  rw [hs i (Nat.le_refl _) (by omega), fdG]
  cases bad i
  ·exact Wg (by omega) fun j a b => hs j (by omega) b
  ·show B i = cond (decide ((i : Int) < 0)) _ (B (i : Int).toNat);rw [ifF (by omega)]
   rfl
theorem RV {F : Nat → D} {bad : Nat → Bool} {B : Nat → D} {n : Nat} (hs : ∀ j, j < n → F j = cond (bad j) (B j) (F (j + 1))) : F 0 = cond (decide (fdG bad n 0 < 0)) (F n) (B (fdG bad n 0).toNat) := Wg (by omega) fun j _ b => hs j b
theorem find {F : Nat → D} {bad : Nat → Bool} {n : Nat} (hs : ∀ j, j < n → F j = cond (bad j) (.row [.int 1, .int (j : Nat)]) (F (j + 1))) (hr : F n = .row [.int 1, .int (-1)]) : F 0 = .row [.int 1, .int (fdG bad n 0)] := by
 rw [RV hs, hr];have h := MT (p := bad) (k := n) (i := 0);by_cases q : fdG bad n 0 < 0
 ·rw [ifT q];rcases h with h | h
  ·rw [h]
  ·omega
 ·rw [ifF q];have : ((fdG bad n 0).toNat : Int) = fdG bad n 0 := by omega
  rw [this]
theorem CZ {i : Nat} (h : i < 4611686018427387904) : IntKind.wrap .i64 ((i : Int) + 1) = ((i + 1 : Nat) : Int) := by rw [AT (by omega) (by omega)]; omega
theorem Mq {α : Type} {c : Bool} {a b x : α} (h1 : c = true → a = x) (h2 : c = false → b = x) : cond c a b = x := by
 cases c
 ·exact h2 rfl
 ·exact h1 rfl
theorem dT {p : Prop} [Decidable p] (h : decide p = true) : p := of_decide_eq_true h
theorem dF {p : Prop} [Decidable p] (h : decide p = false) : ¬ p := of_decide_eq_false h
theorem Rb {x y : Int} : decide (x = y) = decide (y = x) := decide_eq_decide.2 eq_comm
theorem IN {a : D} : D.strEq a a = true := by
 show (Nat.beq _ _ && Nat.beq _ _) = true;simp
theorem Bn {a b : D} : D.strEq a b = D.strEq b a := Lo (U := Fz) _ _ _ _
theorem D6 {a : D} : eqC a 0 0 = decide (A1 a = 0) := by
 show (Nat.beq _ 0 && Nat.beq _ 0) = _;show _ = decide (a.toStr.data.toList.length = 0);cases a.toStr.data.toList <;> simp [Ay]
theorem TN {a b : D} : A1 (Vv a b) = A1 a + A1 b := by
 show (a.toStr ++ b.toStr).data.toList.length = _;simp [A1]
theorem PZ {a b : D} : eqC (Vv a b) 0 0 = (eqC a 0 0 && eqC b 0 0) := by
 rw [D6, D6, D6, TN, Bool.eq_iff_iff];simp
theorem DS {a b : D} : D.strEq a b = true ↔ a.toStr = b.toStr := by
 show AE.strEq _ _ _ _ = true ↔ _;rw [B7 (U := Fz)];constructor
 ·intro h;rw [ByteArray.toList_eq, ByteArray.toList_eq] at h;have : a.toStr.data.toList = b.toStr.data.toList := by simpa only [beq_iff_eq] using h
  exact ByteArray.ext (Array.toList_inj.1 this)
 ·intro h;rw [h];simp
theorem MF {a b c : D} (h : D.strEq a b = true) (h' : D.strEq b c = true) : D.strEq a c = true := DS.2 ((DS.1 h).trans (DS.1 h'))
theorem HS {a b c : D} (h : D.strEq a b = true) : D.strEq a c = D.strEq b c := by
 show AE.strEq _ _ _ _ = AE.strEq _ _ _ _;rw [DS.1 h]
theorem KA {a : D} {i : Nat} {j c : Nat} (hi : i ≤ len a) (hj : j < i) : cl (sb a 0 i) j c = cl a j c := by
 have hi' : i ≤ a.rows.length := hi;show (((a.rows.drop 0).take (i - 0)).getD j default).cells.getD c default = (a.rows.getD j default).cells.getD c default;rw [List.getD_eq_getElem?_getD, List.getD_eq_getElem?_getD, List.getElem?_take];simp [hj]
theorem ShK.cell {K : TypeId → Option (List Kd)} {o : Option Nat} {m j : Nat} {e : TypeId} {ks : List Kd} {kd : Kd} {d : D} {i : Nat} (h : ShK K o (m + 1) (.slice e) d) (hk : K e = some ks) (hi : i < len d) (hj : ks[j]? = some kd) : ShK K o m kd (cl d i j) := h.2 ks hk i hi j kd hj
theorem ShK.rows {K : TypeId → Option (List Kd)} {b m : Nat} {e : TypeId} {d : D} (h : ShK K (some b) (m + 1) (.slice e) d) : len d ≤ b := h.1 b rfl
theorem ShK.text {K : TypeId → Option (List Kd)} {b m : Nat} {d : D} (h : ShK K (some b) m .str d) : A1 d ≤ b := by
 have : leB (some b) (A1 d) := by cases m <;> exact h
 exact this b rfl
end Go.AE
set_option maxRecDepth 100000
namespace Mr
open Go Go.AE
theorem lt : Dr 0 ts = true := by decide
theorem gw [Ao] {k p : Nat} {T : List (Tr Plf)} {t : Tr Plf} {xs : List D} {x : D} (hk : ts[k]? = some T) (hp : T[p]? = some t) (h : Dx ts k (atV ts xs) t = x) : An ts k (.row (.int (p : Nat) :: xs)) = x := (Xt lt hk hp).trans h
section
variable [Ao]
def Tl (v0 v1 v2 v3 : D) : D := An ts 0 (.row [.int (0 : Nat), v0, v1, v2, v3])
def T7 (v0 v1 v2 v3 v4 : D) : D := An ts 0 (.row [.int (1 : Nat), v0, v1, v2, v3, v4])
def R9 (v0 v1 v2 v3 v4 : D) : D := An ts 0 (.row [.int (2 : Nat), v0, v1, v2, v3, v4])
def Ss (v0 v1 v2 v3 v4 : D) : D := An ts 0 (.row [.int (3 : Nat), v0, v1, v2, v3, v4])
def Jd : D := An ts 1 (.row [.int (0 : Nat)])
def Ft (v0 : D) : D := An ts 2 (.row [.int (0 : Nat), v0])
def Qa (v0 v1 v2 : D) : D := An ts 2 (.row [.int (1 : Nat), v0, v1, v2])
def Tu (v0 v1 : D) : D := An ts 3 (.row [.int (0 : Nat), v0, v1])
def UN (v0 v1 v2 : D) : D := An ts 3 (.row [.int (1 : Nat), v0, v1, v2])
def Uy (v0 v1 v2 v3 v4 v5 v6 : D) : D := An ts 4 (.row [.int (0 : Nat), v0, v1, v2, v3, v4, v5, v6])
def RO (v0 v1 v2 v3 v4 v5 : D) : D := An ts 4 (.row [.int (1 : Nat), v0, v1, v2, v3, v4, v5])
def Im (v0 v1 : D) : D := An ts 5 (.row [.int (0 : Nat), v0, v1])
def V7 (v0 v1 v2 : D) : D := An ts 5 (.row [.int (1 : Nat), v0, v1, v2])
def SN (v0 v1 v2 v3 v4 v5 v6 : D) : D := An ts 6 (.row [.int (0 : Nat), v0, v1, v2, v3, v4, v5, v6])
def R8 (v0 v1 v2 v3 v4 v5 : D) : D := An ts 6 (.row [.int (1 : Nat), v0, v1, v2, v3, v4, v5])
def XK (v0 v1 v2 v3 v4 v5 v6 v7 v8 v9 : D) : D := An ts 7 (.row [.int (0 : Nat), v0, v1, v2, v3, v4, v5, v6, v7, v8, v9])
def RI (v0 v1 v2 v3 v4 v5 v6 v7 v8 v9 v10 : D) : D := An ts 7 (.row [.int (1 : Nat), v0, v1, v2, v3, v4, v5, v6, v7, v8, v9, v10])
def Tz (v0 v1 v2 v3 v4 v5 v6 : D) : D := An ts 8 (.row [.int (0 : Nat), v0, v1, v2, v3, v4, v5, v6])
def G6 (v0 v1 v2 v3 v4 v5 : D) : D := An ts 8 (.row [.int (1 : Nat), v0, v1, v2, v3, v4, v5])
def Ub (v0 v1 v2 v3 : D) : D := An ts 9 (.row [.int (0 : Nat), v0, v1, v2, v3])
def Dk (v0 v1 v2 : D) : D := An ts 10 (.row [.int (0 : Nat), v0, v1, v2])
def QY (v0 v1 v2 v3 : D) : D := An ts 10 (.row [.int (1 : Nat), v0, v1, v2, v3])
def Cl (v0 : D) : D := An ts 11 (.row [.int (0 : Nat), v0])
def Qk (v0 v1 v2 v3 : D) : D := An ts 11 (.row [.int (1 : Nat), v0, v1, v2, v3])
def Cr (v0 : D) : D := An ts 12 (.row [.int (0 : Nat), v0])
def Cq (v0 : D) : D := An ts 13 (.row [.int (0 : Nat), v0])
def Cj (v0 : D) : D := An ts 14 (.row [.int (0 : Nat), v0])
def Dy (v0 v1 v2 : D) : D := An ts 15 (.row [.int (0 : Nat), v0, v1, v2])
def Oe (v0 v1 v2 v3 v4 v5 : D) : D := An ts 15 (.row [.int (1 : Nat), v0, v1, v2, v3, v4, v5])
def GC (v0 v1 v2 v3 v4 v5 : D) : D := An ts 16 (.row [.int (0 : Nat), v0, v1, v2, v3, v4, v5])
def Hc (v0 v1 v2 v3 v4 v5 : D) : D := An ts 17 (.row [.int (0 : Nat), v0, v1, v2, v3, v4, v5])
def Ef (v0 v1 v2 v3 v4 v5 v6 : D) : D := An ts 19 (.row [.int (0 : Nat), v0, v1, v2, v3, v4, v5, v6])
def Jb (v0 v1 v2 v3 v4 v5 : D) : D := An ts 19 (.row [.int (1 : Nat), v0, v1, v2, v3, v4, v5])
def Kv (v0 v1 v2 v3 v4 v5 v6 : D) : D := An ts 20 (.row [.int (0 : Nat), v0, v1, v2, v3, v4, v5, v6])
def CY (v0 v1 v2 v3 v4 v5 v6 v7 v8 v9 v10 v11 v12 v13 v14 v15 v16 v17 v18 v19 v20 : D) : D := An ts 21 (.row [.int (0 : Nat), v0, v1, v2, v3, v4, v5, v6, v7, v8, v9, v10, v11, v12, v13, v14, v15, v16, v17, v18, v19, v20])
def AX (v0 v1 v2 v3 : D) : D := An ts 22 (.row [.int (0 : Nat), v0, v1, v2, v3])
def IS (v0 v1 : D) : D := An ts 24 (.row [.int (0 : Nat), v0, v1])
def Md (v0 v1 v2 v3 v4 : D) : D := An ts 25 (.row [.int (0 : Nat), v0, v1, v2, v3, v4])
def FW (v0 v1 v2 v3 v4 : D) : D := An ts 26 (.row [.int (0 : Nat), v0, v1, v2, v3, v4])
def Rm (v0 v1 v2 v3 v4 v5 v6 : D) : D := An ts 26 (.row [.int (1 : Nat), v0, v1, v2, v3, v4, v5, v6])
def Bz (v0 v1 v2 v3 v4 v5 v6 v7 v8 v9 v10 : D) : D := An ts 26 (.row [.int (2 : Nat), v0, v1, v2, v3, v4, v5, v6, v7, v8, v9, v10])
def Bo (v0 v1 v2 v3 v4 : D) : D := An ts 27 (.row [.int (0 : Nat), v0, v1, v2, v3, v4])
def I6 (v0 v1 v2 v3 v4 : D) : D := An ts 27 (.row [.int (1 : Nat), v0, v1, v2, v3, v4])
def KY (v0 v1 v2 v3 v4 v5 : D) : D := An ts 28 (.row [.int (0 : Nat), v0, v1, v2, v3, v4, v5])
def KZ (v0 v1 v2 v3 v4 v5 v6 v7 v8 v9 : D) : D := An ts 28 (.row [.int (1 : Nat), v0, v1, v2, v3, v4, v5, v6, v7, v8, v9])
def Dj (v0 v1 : D) : D := An ts 29 (.row [.int (0 : Nat), v0, v1])
def Fo (v0 v1 v2 : D) : D := An ts 30 (.row [.int (0 : Nat), v0, v1, v2])
def Fp (v0 v1 v2 v3 v4 v5 v6 v7 v8 v9 v10 : D) : D := An ts 31 (.row [.int (0 : Nat), v0, v1, v2, v3, v4, v5, v6, v7, v8, v9, v10])
def Qv (v0 v1 v2 v3 v4 v5 v6 v7 v8 v9 v10 v11 v12 v13 v14 v15 v16 v17 v18 v19 v20 v21 v22 v23 v24 v25 v26 v27 v28 v29 : D) : D := An ts 32 (.row [.int (0 : Nat), v0, v1, v2, v3, v4, v5, v6, v7, v8, v9, v10, v11, v12, v13, v14, v15, v16, v17, v18, v19, v20, v21, v22, v23, v24, v25, v26, v27, v28, v29])
def KH (v0 v1 v2 v3 v4 v5 v6 v7 v8 v9 v10 v11 v12 v13 v14 v15 v16 v17 v18 v19 v20 v21 v22 v23 v24 v25 v26 v27 v28 v29 v30 : D) : D := An ts 32 (.row [.int (1 : Nat), v0, v1, v2, v3, v4, v5, v6, v7, v8, v9, v10, v11, v12, v13, v14, v15, v16, v17, v18, v19, v20, v21, v22, v23, v24, v25, v26, v27, v28, v29, v30])
def KB (v0 v1 v2 v3 v4 v5 v6 v7 v8 v9 v10 v11 v12 v13 v14 v15 v16 v17 v18 v19 v20 v21 v22 v23 v24 v25 : D) : D := An ts 33 (.row [.int (0 : Nat), v0, v1, v2, v3, v4, v5, v6, v7, v8, v9, v10, v11, v12, v13, v14, v15, v16, v17, v18, v19, v20, v21, v22, v23, v24, v25])
def Ml (v0 v1 v2 v3 v4 v5 v6 v7 v8 v9 v10 v11 v12 v13 v14 v15 v16 v17 v18 v19 v20 v21 v22 v23 v24 v25 v26 : D) : D := An ts 33 (.row [.int (1 : Nat), v0, v1, v2, v3, v4, v5, v6, v7, v8, v9, v10, v11, v12, v13, v14, v15, v16, v17, v18, v19, v20, v21, v22, v23, v24, v25, v26])
def TZ (v0 v1 v2 v3 v4 v5 v6 v7 v8 v9 v10 v11 v12 v13 v14 v15 v16 v17 v18 v19 v20 : D) : D := An ts 34 (.row [.int (0 : Nat), v0, v1, v2, v3, v4, v5, v6, v7, v8, v9, v10, v11, v12, v13, v14, v15, v16, v17, v18, v19, v20])
def JN (v0 v1 v2 v3 v4 v5 v6 v7 v8 v9 v10 v11 v12 v13 v14 v15 v16 v17 v18 v19 v20 v21 v22 v23 v24 v25 v26 v27 v28 v29 v30 v31 v32 v33 v34 : D) : D := An ts 35 (.row [.int (0 : Nat), v0, v1, v2, v3, v4, v5, v6, v7, v8, v9, v10, v11, v12, v13, v14, v15, v16, v17, v18, v19, v20, v21, v22, v23, v24, v25, v26, v27, v28, v29, v30, v31, v32, v33, v34])
def J7 (v0 v1 v2 v3 v4 v5 v6 v7 v8 v9 v10 v11 v12 v13 v14 v15 v16 v17 v18 v19 v20 v21 v22 v23 v24 v25 v26 v27 v28 v29 v30 v31 v32 v33 v34 v35 : D) : D := An ts 35 (.row [.int (1 : Nat), v0, v1, v2, v3, v4, v5, v6, v7, v8, v9, v10, v11, v12, v13, v14, v15, v16, v17, v18, v19, v20, v21, v22, v23, v24, v25, v26, v27, v28, v29, v30, v31, v32, v33, v34, v35])
def EE (v0 v1 v2 v3 v4 v5 v6 v7 v8 v9 v10 : D) : D := An ts 36 (.row [.int (0 : Nat), v0, v1, v2, v3, v4, v5, v6, v7, v8, v9, v10])
def Mc (v0 v1 v2 v3 v4 v5 v6 v7 v8 v9 v10 v11 v12 v13 v14 v15 v16 v17 v18 v19 v20 v21 v22 v23 v24 v25 v26 v27 : D) : D := An ts 37 (.row [.int (0 : Nat), v0, v1, v2, v3, v4, v5, v6, v7, v8, v9, v10, v11, v12, v13, v14, v15, v16, v17, v18, v19, v20, v21, v22, v23, v24, v25, v26, v27])
def Bc (v0 v1 v2 v3 v4 v5 v6 v7 v8 v9 v10 v11 v12 v13 v14 v15 v16 v17 v18 v19 v20 v21 : D) : D := An ts 38 (.row [.int (0 : Nat), v0, v1, v2, v3, v4, v5, v6, v7, v8, v9, v10, v11, v12, v13, v14, v15, v16, v17, v18, v19, v20, v21])
def Ke (v0 v1 v2 v3 v4 v5 v6 v7 v8 v9 v10 v11 v12 v13 v14 v15 v16 v17 v18 v19 v20 v21 v22 v23 v24 v25 v26 v27 v28 v29 v30 v31 : D) : D := An ts 39 (.row [.int (0 : Nat), v0, v1, v2, v3, v4, v5, v6, v7, v8, v9, v10, v11, v12, v13, v14, v15, v16, v17, v18, v19, v20, v21, v22, v23, v24, v25, v26, v27, v28, v29, v30, v31])
def Hs (v0 v1 v2 v3 v4 v5 v6 v7 v8 v9 v10 v11 v12 v13 v14 v15 v16 v17 v18 v19 v20 v21 v22 v23 v24 v25 v26 v27 v28 v29 v30 v31 v32 : D) : D := An ts 39 (.row [.int (1 : Nat), v0, v1, v2, v3, v4, v5, v6, v7, v8, v9, v10, v11, v12, v13, v14, v15, v16, v17, v18, v19, v20, v21, v22, v23, v24, v25, v26, v27, v28, v29, v30, v31, v32])
def N4 (v0 v1 v2 v3 v4 v5 v6 v7 v8 v9 v10 v11 v12 v13 v14 v15 v16 v17 v18 v19 v20 v21 v22 : D) : D := An ts 40 (.row [.int (0 : Nat), v0, v1, v2, v3, v4, v5, v6, v7, v8, v9, v10, v11, v12, v13, v14, v15, v16, v17, v18, v19, v20, v21, v22])
def Qo (v0 v1 v2 v3 v4 v5 v6 v7 v8 v9 v10 v11 v12 v13 v14 v15 v16 v17 v18 v19 v20 v21 v22 v23 v24 v25 v26 v27 v28 v29 : D) : D := An ts 41 (.row [.int (0 : Nat), v0, v1, v2, v3, v4, v5, v6, v7, v8, v9, v10, v11, v12, v13, v14, v15, v16, v17, v18, v19, v20, v21, v22, v23, v24, v25, v26, v27, v28, v29])
def KJ (v0 v1 v2 v3 v4 v5 v6 v7 v8 v9 v10 v11 v12 v13 v14 v15 v16 v17 v18 v19 v20 v21 v22 v23 v24 v25 v26 v27 v28 v29 v30 : D) : D := An ts 41 (.row [.int (1 : Nat), v0, v1, v2, v3, v4, v5, v6, v7, v8, v9, v10, v11, v12, v13, v14, v15, v16, v17, v18, v19, v20, v21, v22, v23, v24, v25, v26, v27, v28, v29, v30])
def Ri (v0 v1 v2 v3 v4 v5 v6 v7 v8 v9 v10 v11 v12 v13 v14 v15 v16 v17 v18 v19 v20 v21 : D) : D := An ts 42 (.row [.int (0 : Nat), v0, v1, v2, v3, v4, v5, v6, v7, v8, v9, v10, v11, v12, v13, v14, v15, v16, v17, v18, v19, v20, v21])
def Ma (v0 v1 v2 v3 v4 v5 v6 v7 v8 v9 v10 v11 v12 v13 v14 v15 v16 v17 v18 v19 v20 v21 v22 v23 v24 : D) : D := An ts 42 (.row [.int (1 : Nat), v0, v1, v2, v3, v4, v5, v6, v7, v8, v9, v10, v11, v12, v13, v14, v15, v16, v17, v18, v19, v20, v21, v22, v23, v24])
def T6 (v0 v1 v2 v3 v4 v5 v6 v7 v8 v9 v10 v11 v12 v13 v14 v15 v16 v17 v18 v19 : D) : D := An ts 43 (.row [.int (0 : Nat), v0, v1, v2, v3, v4, v5, v6, v7, v8, v9, v10, v11, v12, v13, v14, v15, v16, v17, v18, v19])
def GG (v0 v1 : D) : D := An ts 44 (.row [.int (0 : Nat), v0, v1])
def WA (v0 v1 v2 v3 v4 v5 v6 v7 v8 v9 v10 v11 v12 v13 v14 v15 v16 v17 v18 v19 v20 v21 v22 v23 v24 v25 : D) : D := An ts 45 (.row [.int (0 : Nat), v0, v1, v2, v3, v4, v5, v6, v7, v8, v9, v10, v11, v12, v13, v14, v15, v16, v17, v18, v19, v20, v21, v22, v23, v24, v25])
def QO (v0 v1 v2 v3 v4 v5 v6 v7 v8 v9 v10 v11 v12 v13 v14 v15 v16 v17 v18 v19 v20 v21 v22 v23 v24 v25 v26 : D) : D := An ts 45 (.row [.int (1 : Nat), v0, v1, v2, v3, v4, v5, v6, v7, v8, v9, v10, v11, v12, v13, v14, v15, v16, v17, v18, v19, v20, v21, v22, v23, v24, v25, v26])
def Oj (v0 v1 v2 v3 v4 v5 : D) : D := An ts 46 (.row [.int (0 : Nat), v0, v1, v2, v3, v4, v5])
def Qt (v0 v1 v2 v3 v4 v5 v6 : D) : D := An ts 46 (.row [.int (1 : Nat), v0, v1, v2, v3, v4, v5, v6])
def Fr (v0 v1 v2 v3 v4 v5 v6 v7 v8 v9 v10 v11 v12 v13 v14 v15 v16 v17 v18 v19 v20 : D) : D := An ts 47 (.row [.int (0 : Nat), v0, v1, v2, v3, v4, v5, v6, v7, v8, v9, v10, v11, v12, v13, v14, v15, v16, v17, v18, v19, v20])
def WJ (v0 v1 v2 v3 v4 : D) : D := An ts 50 (.row [.int (0 : Nat), v0, v1, v2, v3, v4])
def L8 (v0 v1 v2 v3 v4 v5 v6 v7 v8 v9 v10 v11 v12 v13 v14 v15 v16 v17 v18 v19 v20 v21 v22 v23 v24 v25 v26 v27 v28 v29 v30 v31 v32 v33 v34 v35 v36 v37 v38 v39 v40 v41 v42 : D) : D := An ts 50 (.row [.int (1 : Nat), v0, v1, v2, v3, v4, v5, v6, v7, v8, v9, v10, v11, v12, v13, v14, v15, v16, v17, v18, v19, v20, v21, v22, v23, v24, v25, v26, v27, v28, v29, v30, v31, v32, v33, v34, v35, v36, v37, v38, v39, v40, v41, v42])
def CV (v0 v1 v2 v3 v4 v5 v6 v7 v8 v9 v10 v11 v12 v13 v14 v15 v16 v17 v18 v19 v20 v21 v22 v23 v24 v25 v26 v27 v28 v29 v30 v31 v32 v33 v34 v35 v36 v37 v38 v39 v40 v41 v42 v43 : D) : D := An ts 50 (.row [.int (2 : Nat), v0, v1, v2, v3, v4, v5, v6, v7, v8, v9, v10, v11, v12, v13, v14, v15, v16, v17, v18, v19, v20, v21, v22, v23, v24, v25, v26, v27, v28, v29, v30, v31, v32, v33, v34, v35, v36, v37, v38, v39, v40, v41, v42, v43])
def Og (v0 v1 v2 v3 v4 v5 v6 v7 v8 v9 v10 v11 v12 v13 v14 v15 v16 v17 v18 v19 v20 v21 v22 v23 v24 v25 v26 v27 v28 v29 v30 v31 v32 v33 v34 v35 v36 v37 v38 v39 v40 v41 v42 v43 v44 v45 v46 v47 : D) : D := An ts 50 (.row [.int (3 : Nat), v0, v1, v2, v3, v4, v5, v6, v7, v8, v9, v10, v11, v12, v13, v14, v15, v16, v17, v18, v19, v20, v21, v22, v23, v24, v25, v26, v27, v28, v29, v30, v31, v32, v33, v34, v35, v36, v37, v38, v39, v40, v41, v42, v43, v44, v45, v46, v47])
theorem dI (v0 v1 v2 v3 : D) : Tl v0 v1 v2 v3 =
  cond (6 < (len v2 : Int)) (
 .row [.int 1, (.bool true)]) (
 cond (8 < (len v1 : Int)) (
 .row [.int 1, (.bool true)]) (
 cond (14 < (len v3 : Int)) (
 .row [.int 1, (.bool true)]) (
 cond (60 < (A1 v0 : Int)) (
 .row [.int 1, (.bool true)]) (
 T7 (.int 0) v0 v1 v2 v3)))) := gw rfl rfl rfl
theorem ba (v0 : Int) (v1 v2 v3 v4 : D) : T7 (.int v0) v1 v2 v3 v4 =
  cond (v0 < len v3) (
 cond (v0 < 0) (
 .row []) (
 cond (60 < (A1 (cl v3 v0 0) : Int)) (
 .row [.int 1, (.bool true)]) (
 T7 (.int (IntKind.wrap .i64 (v0 + 1))) v1 v2 v3 v4))) (
 R9 (.int 0) v1 v2 v3 v4) := gw rfl rfl rfl
theorem Zt (v0 : Int) (v1 v2 v3 v4 : D) : R9 (.int v0) v1 v2 v3 v4 =
  cond (v0 < len v2) (
 cond (v0 < 0) (
 .row []) (
 cond (60 < (A1 (cl v2 v0 0) : Int)) (
 .row [.int 1, (.bool true)]) (
 R9 (.int (IntKind.wrap .i64 (v0 + 1))) v1 v2 v3 v4))) (
 Ss (.int 0) v1 v2 v3 v4) := gw rfl rfl rfl
theorem Zq (v0 : Int) (v1 v2 v3 v4 : D) : Ss (.int v0) v1 v2 v3 v4 =
  cond (v0 < len v4) (
 cond (v0 < 0) (
 .row []) (
 cond (60 < (A1 (cl v4 v0 0) : Int)) (
 .row [.int 1, (.bool true)]) (
 cond (60 < (A1 (cl v4 v0 1) : Int)) (
 .row [.int 1, (.bool true)]) (
 cond (60 < (A1 (cl v4 v0 3) : Int)) (
 .row [.int 1, (.bool true)]) (
 cond (60 < (A1 (cl v4 v0 4) : Int)) (
 .row [.int 1, (.bool true)]) (
 cond (60 < (A1 (cl v4 v0 5) : Int)) (
 .row [.int 1, (.bool true)]) (
 Ss (.int (IntKind.wrap .i64 (v0 + 1))) v1 v2 v3 v4))))))) (
 .row [.int 1, (.bool false)]) := gw rfl rfl rfl
theorem dP : Jd =
 .row [.int 1] := gw rfl rfl rfl
theorem be (v0 : D) : Ft v0 =
  cond ((A1 v0 : Int) < 1) (
 .row [.int 1, (.bool false)]) (
 cond (32 < (A1 v0 : Int)) (
 .row [.int 1, (.bool false)]) (
 Qa (Oc v0) (.int (len (Oc v0) : Int)) (.int 0))) := gw rfl rfl rfl
theorem WZ (v0 : D) (v1 v2 : Int) : Qa v0 (.int v1) (.int v2) =
  cond (v2 < v1) (
 cond (v2 < 0) (
 .row []) (
 cond (v2 < len v0) (
 cond ((IntKind.wrap .u8 (cl v0 v2 0).toInt) < 97) (
 cond ((IntKind.wrap .u8 (cl v0 v2 0).toInt) < 65) (
 cond (v2 = 0) (
 .row [.int 1, (.bool false)]) (
 cond ((IntKind.wrap .u8 (cl v0 v2 0).toInt) < 48) (
 .row [.int 1, (.bool false)]) (
 cond (57 < (IntKind.wrap .u8 (cl v0 v2 0).toInt)) (
 .row [.int 1, (.bool false)]) (
 Qa v0 (.int v1) (.int (IntKind.wrap .i64 (v2 + 1))))))) (
 cond (90 < (IntKind.wrap .u8 (cl v0 v2 0).toInt)) (
 cond (v2 = 0) (
 .row [.int 1, (.bool false)]) (
 cond ((IntKind.wrap .u8 (cl v0 v2 0).toInt) = 95) (
 Qa v0 (.int v1) (.int (IntKind.wrap .i64 (v2 + 1)))) (
 .row [.int 1, (.bool false)]))) (
 Qa v0 (.int v1) (.int (IntKind.wrap .i64 (v2 + 1)))))) (
 cond (122 < (IntKind.wrap .u8 (cl v0 v2 0).toInt)) (
 cond (v2 = 0) (
 .row [.int 1, (.bool false)]) (
 .row [.int 1, (.bool false)])) (
 Qa v0 (.int v1) (.int (IntKind.wrap .i64 (v2 + 1)))))) (
 .row []))) (
 .row [.int 1, (.bool true)]) := gw rfl rfl (cL (cL rfl (cL (cL (cL (cQ rfl rfl) (cL (cQ rfl (cQ rfl rfl)) rfl)) (cL (cQ rfl rfl) rfl)) rfl)) rfl)
theorem eG (v0 v1 : D) : Tu v0 v1 =
 UN v0 (.int 0) v1 := gw rfl rfl rfl
theorem ez (v0 : D) (v1 : Int) (v2 : D) : UN v0 (.int v1) v2 =
  cond (v1 < len v0) (
 cond (v1 < 0) (
 .row []) (
 cond (D.strEq (cl v0 v1 0) v2) (
 .row [.int 1, (.int v1)]) (
 UN v0 (.int (IntKind.wrap .i64 (v1 + 1))) v2))) (
 .row [.int 1, (.int (-1))]) := gw rfl rfl rfl
theorem dN (v0 v1 v2 : Int) (v3 v4 v5 v6 : D) : Uy (.int v0) (.int v1) (.int v2) v3 v4 v5 v6 =
  cond (v0 < v1) (
 .row [.int 1, (.int 0)]) (
 cond (v2 < v0) (
 .row [.int 1, (.int v2)]) (
 RO (.int v0) (.int 0) v3 v4 v5 v6)) := gw rfl rfl rfl
theorem YI (v0 v1 : Int) (v2 v3 v4 v5 : D) : RO (.int v0) (.int v1) v2 v3 v4 v5 =
  cond (v1 < v0) (
 cond (v1 < 0) (
 .row []) (
 cond (v1 < len v4) (
 cond ((sl (Ft (cl v4 v1 0)) 0).toInt = 1) (
 cond ((sl (Ft (cl v4 v1 0)) 1).toBool) (
 cond ((sl (Tu v4 (cl v4 v1 0)) 0).toInt = 1) (
 cond ((sl (Tu v4 (cl v4 v1 0)) 1).toInt < v1) (
 .row [.int 1, (.int v1)]) (
 cond ((cl v4 v1 1).toInt < 1) (
 .row [.int 1, (.int v1)]) (
 cond (1000 < (cl v4 v1 1).toInt) (
 .row [.int 1, (.int v1)]) (
 RO (.int v0) (.int (IntKind.wrap .i64 (v1 + 1))) v2 v3 v4 v5)))) (
 .row [])) (
 .row [.int 1, (.int v1)])) (
 .row [])) (
 .row []))) (
 .row [.int 1, (.int (-1))]) := gw rfl rfl (cL (cL rfl (cL (cQ (cg rfl (cQ (cL rfl (cL rfl (cL rfl rfl))) rfl) rfl) rfl) rfl)) rfl)
theorem eO (v0 v1 : D) : Im v0 v1 =
 V7 v0 (.int 0) v1 := gw rfl rfl rfl
theorem ek (v0 : D) (v1 : Int) (v2 : D) : V7 v0 (.int v1) v2 =
  cond (v1 < len v0) (
 cond (v1 < 0) (
 .row []) (
 cond (D.strEq (cl v0 v1 0) v2) (
 .row [.int 1, (.int v1)]) (
 V7 v0 (.int (IntKind.wrap .i64 (v1 + 1))) v2))) (
 .row [.int 1, (.int (-1))]) := gw rfl rfl rfl
theorem eL (v0 v1 v2 : Int) (v3 v4 v5 v6 : D) : SN (.int v0) (.int v1) (.int v2) v3 v4 v5 v6 =
  cond (v0 < v1) (
 .row [.int 1, (.int 0)]) (
 cond (v2 < v0) (
 .row [.int 1, (.int v2)]) (
 R8 (.int v0) (.int 0) v3 v4 v5 v6)) := gw rfl rfl rfl
theorem ai (v0 v1 : Int) (v2 v3 v4 v5 : D) : R8 (.int v0) (.int v1) v2 v3 v4 v5 =
  cond (v1 < v0) (
 cond (v1 < 0) (
 .row []) (
 cond (v1 < len v3) (
 cond ((sl (Ft (cl v3 v1 0)) 0).toInt = 1) (
 cond ((sl (Ft (cl v3 v1 0)) 1).toBool) (
 cond ((sl (Im v3 (cl v3 v1 0)) 0).toInt = 1) (
 cond ((sl (Im v3 (cl v3 v1 0)) 1).toInt < v1) (
 .row [.int 1, (.int v1)]) (
 cond ((cl v3 v1 2).toInt < 0) (
 .row [.int 1, (.int v1)]) (
 cond (1048576 < (cl v3 v1 2).toInt) (
 .row [.int 1, (.int v1)]) (
 R8 (.int v0) (.int (IntKind.wrap .i64 (v1 + 1))) v2 v3 v4 v5)))) (
 .row [])) (
 .row [.int 1, (.int v1)])) (
 .row [])) (
 .row []))) (
 .row [.int 1, (.int (-1))]) := gw rfl rfl (cL (cL rfl (cL (cQ (cg rfl (cQ (cL rfl (cL rfl (cL rfl rfl))) rfl) rfl) rfl) rfl)) rfl)
theorem dx (v0 v1 v2 : D) (v3 : Int) (v4 v5 v6 : D) (v7 v8 v9 : Int) : XK v0 v1 v2 (.int v3) v4 v5 v6 (.int v7) (.int v8) (.int v9) =
 RI v0 (.int 0) v1 v2 (.int v3) v4 v5 v6 (.int v7) (.int v8) (.int v9) := gw rfl rfl rfl
theorem YE (v0 : D) (v1 : Int) (v2 v3 : D) (v4 : Int) (v5 v6 v7 : D) (v8 v9 v10 : Int) : RI v0 (.int v1) v2 v3 (.int v4) v5 v6 v7 (.int v8) (.int v9) (.int v10) =
  cond (v1 < len v0) (
 cond (v1 < 0) (
 .row []) (
 cond ((D.strEq v2 (cl v0 v1 0) && (D.strEq v3 (cl v0 v1 1) && (decide (v4 = (cl v0 v1 2).toInt) && (D.strEq v5 (cl v0 v1 3) && (D.strEq v6 (cl v0 v1 4) && (D.strEq v7 (cl v0 v1 5) && (decide (v8 = (cl v0 v1 6).toInt) && (decide (v9 = (cl v0 v1 7).toInt) && decide (v10 = (cl v0 v1 8).toInt)))))))))) (
 .row [.int 1, (.int v1)]) (
 RI v0 (.int (IntKind.wrap .i64 (v1 + 1))) v2 v3 (.int v4) v5 v6 v7 (.int v8) (.int v9) (.int v10)))) (
 .row [.int 1, (.int (-1))]) := gw rfl rfl (cL (cL rfl (cg (aE rfl (aE rfl (aE (qE rfl rfl) (aE rfl (aE rfl (aE rfl (aE (qE rfl rfl) (aE (qE rfl rfl) (qE rfl rfl))))))))) rfl rfl)) rfl)
theorem dJ (v0 v1 v2 : Int) (v3 v4 v5 v6 : D) : Tz (.int v0) (.int v1) (.int v2) v3 v4 v5 v6 =
  cond (v0 < v1) (
 .row [.int 1, (.int 0)]) (
 cond (v2 < v0) (
 .row [.int 1, (.int v2)]) (
 G6 (.int v0) (.int 0) v3 v4 v5 v6)) := gw rfl rfl rfl
theorem aN (v0 v1 : Int) (v2 v3 v4 v5 : D) {F0 F1 F2 : D} (h0 : XK (sb v5 0 v1) (cl v5 v1 0) (cl v5 v1 1) (cl v5 v1 2) (cl v5 v1 3) (cl v5 v1 4) (cl v5 v1 5) (cl v5 v1 6) (cl v5 v1 7) (cl v5 v1 8) = F0) (h1 : Tu v4 (cl v5 v1 5) = F1) (h2 : Im v3 (cl v5 v1 0) = F2) : G6 (.int v0) (.int v1) v2 v3 v4 v5 =
  cond (v1 < v0) (
 cond (v1 < 0) (
 .row []) (
 cond (v1 < len v5) (
 cond ((cl v5 v1 2).toInt = 1) (
 cond ((sl F2 0).toInt = 1) (
 cond ((sl F1 0).toInt = 1) (
 cond ((sl F2 1).toInt < 0) (
 .row [.int 1, (.int v1)]) (
 cond ((sl (Im v3 (cl v5 v1 1)) 0).toInt = 1) (
 cond ((sl (Im v3 (cl v5 v1 1)) 1).toInt < 0) (
 .row [.int 1, (.int v1)]) (
 cond (len v5 < v1) (
 .row []) (
 cond ((sl F0 0).toInt = 1) (
 cond ((sl F0 1).toInt < 0) (
 cond ((sl F2 1).toInt < len v3) (
 cond ((sl (Ft (cl v5 v1 3)) 0).toInt = 1) (
 cond ((sl (Ft (cl v5 v1 3)) 1).toBool) (
 cond ((sl (Ft (cl v5 v1 4)) 0).toInt = 1) (
 cond ((sl (Ft (cl v5 v1 4)) 1).toBool) (
 cond (D.strEq (cl v5 v1 4) v2) (
 .row [.int 1, (.int v1)]) (
 cond (eqC (cl v5 v1 5) 0 0) (
 cond ((cl v5 v1 6).toInt = 0) (
 cond ((cl v5 v1 7).toInt = 0) (
 cond ((cl v5 v1 8).toInt = 0) (
 G6 (.int v0) (.int (IntKind.wrap .i64 (v1 + 1))) v2 v3 v4 v5) (
 .row [.int 1, (.int v1)])) (
 .row [.int 1, (.int v1)])) (
 .row [.int 1, (.int v1)])) (
 cond ((sl F1 1).toInt < 0) (
 .row [.int 1, (.int v1)]) (
 cond ((cl v5 v1 6).toInt < 0) (
 .row [.int 1, (.int v1)]) (
 cond ((cl v5 v1 7).toInt < (cl v5 v1 6).toInt) (
 .row [.int 1, (.int v1)]) (
 cond ((cl v5 v1 8).toInt < (-1000)) (
 .row [.int 1, (.int v1)]) (
 cond (1000 < (cl v5 v1 8).toInt) (
 .row [.int 1, (.int v1)]) (
 cond ((sl F1 1).toInt < len v4) (
 cond ((cl v4 (sl F1 1).toInt 1).toInt < (cl v5 v1 7).toInt) (
 .row [.int 1, (.int v1)]) (
 cond ((IntKind.wrap .i64 ((cl v5 v1 6).toInt + (cl v5 v1 8).toInt)) < 0) (
 .row [.int 1, (.int v1)]) (
 cond ((cl v4 (sl F1 1).toInt 1).toInt < (IntKind.wrap .i64 ((cl v5 v1 7).toInt + (cl v5 v1 8).toInt))) (
 .row [.int 1, (.int v1)]) (
 G6 (.int v0) (.int (IntKind.wrap .i64 (v1 + 1))) v2 v3 v4 v5)))) (
 .row []))))))))) (
 .row [.int 1, (.int v1)])) (
 .row [])) (
 .row [.int 1, (.int v1)])) (
 .row [])) (
 .row [])) (
 .row [.int 1, (.int v1)])) (
 .row [])))) (
 .row []))) (
 .row [])) (
 .row [])) (
 cond ((cl v5 v1 2).toInt = 2) (
 cond ((sl F2 0).toInt = 1) (
 cond ((sl F1 0).toInt = 1) (
 cond ((sl F2 1).toInt < 0) (
 .row [.int 1, (.int v1)]) (
 cond ((sl (Im v3 (cl v5 v1 1)) 0).toInt = 1) (
 cond ((sl (Im v3 (cl v5 v1 1)) 1).toInt < 0) (
 .row [.int 1, (.int v1)]) (
 cond (len v5 < v1) (
 .row []) (
 cond ((sl F0 0).toInt = 1) (
 cond ((sl F0 1).toInt < 0) (
 cond ((sl F2 1).toInt < len v3) (
 cond ((sl (Ft (cl v5 v1 3)) 0).toInt = 1) (
 cond ((sl (Ft (cl v5 v1 3)) 1).toBool) (
 cond ((sl (Ft (cl v5 v1 4)) 0).toInt = 1) (
 cond ((sl (Ft (cl v5 v1 4)) 1).toBool) (
 cond (D.strEq (cl v5 v1 4) v2) (
 .row [.int 1, (.int v1)]) (
 cond (eqC (cl v5 v1 5) 0 0) (
 cond ((cl v5 v1 6).toInt = 0) (
 cond ((cl v5 v1 7).toInt = 0) (
 cond ((cl v5 v1 8).toInt = 0) (
 G6 (.int v0) (.int (IntKind.wrap .i64 (v1 + 1))) v2 v3 v4 v5) (
 .row [.int 1, (.int v1)])) (
 .row [.int 1, (.int v1)])) (
 .row [.int 1, (.int v1)])) (
 cond ((sl F1 1).toInt < 0) (
 .row [.int 1, (.int v1)]) (
 cond ((cl v5 v1 6).toInt < 0) (
 .row [.int 1, (.int v1)]) (
 cond ((cl v5 v1 7).toInt < (cl v5 v1 6).toInt) (
 .row [.int 1, (.int v1)]) (
 cond ((cl v5 v1 8).toInt < (-1000)) (
 .row [.int 1, (.int v1)]) (
 cond (1000 < (cl v5 v1 8).toInt) (
 .row [.int 1, (.int v1)]) (
 cond ((sl F1 1).toInt < len v4) (
 cond ((cl v4 (sl F1 1).toInt 1).toInt < (cl v5 v1 7).toInt) (
 .row [.int 1, (.int v1)]) (
 cond ((IntKind.wrap .i64 ((cl v5 v1 6).toInt + (cl v5 v1 8).toInt)) < 0) (
 .row [.int 1, (.int v1)]) (
 cond ((cl v4 (sl F1 1).toInt 1).toInt < (IntKind.wrap .i64 ((cl v5 v1 7).toInt + (cl v5 v1 8).toInt))) (
 .row [.int 1, (.int v1)]) (
 G6 (.int v0) (.int (IntKind.wrap .i64 (v1 + 1))) v2 v3 v4 v5)))) (
 .row []))))))))) (
 .row [.int 1, (.int v1)])) (
 .row [])) (
 .row [.int 1, (.int v1)])) (
 .row [])) (
 .row [])) (
 .row [.int 1, (.int v1)])) (
 .row [])))) (
 .row []))) (
 .row [])) (
 .row [])) (
 cond ((cl v5 v1 2).toInt = 3) (
 cond ((sl F2 0).toInt = 1) (
 cond ((sl F1 0).toInt = 1) (
 cond ((sl F2 1).toInt < 0) (
 .row [.int 1, (.int v1)]) (
 cond ((sl (Im v3 (cl v5 v1 1)) 0).toInt = 1) (
 cond ((sl (Im v3 (cl v5 v1 1)) 1).toInt < 0) (
 .row [.int 1, (.int v1)]) (
 cond (len v5 < v1) (
 .row []) (
 cond ((sl F0 0).toInt = 1) (
 cond ((sl F0 1).toInt < 0) (
 cond ((sl F2 1).toInt < len v3) (
 cond (0 < (cl v3 (sl F2 1).toInt 2).toInt) (
 cond ((A1 (cl v5 v1 3) : Int) < 4611686018427387904) (
 cond ((A1 (cl v5 v1 4) : Int) < 4611686018427387904) (
 cond (eqC (Vv (cl v5 v1 3) (cl v5 v1 4)) 0 0) (
 cond (eqC (cl v5 v1 5) 0 0) (
 cond ((cl v5 v1 6).toInt = 0) (
 cond ((cl v5 v1 7).toInt = 0) (
 cond ((cl v5 v1 8).toInt = 0) (
 G6 (.int v0) (.int (IntKind.wrap .i64 (v1 + 1))) v2 v3 v4 v5) (
 .row [.int 1, (.int v1)])) (
 .row [.int 1, (.int v1)])) (
 .row [.int 1, (.int v1)])) (
 cond ((sl F1 1).toInt < 0) (
 .row [.int 1, (.int v1)]) (
 cond ((cl v5 v1 6).toInt < 0) (
 .row [.int 1, (.int v1)]) (
 cond ((cl v5 v1 7).toInt < (cl v5 v1 6).toInt) (
 .row [.int 1, (.int v1)]) (
 cond ((cl v5 v1 8).toInt < (-1000)) (
 .row [.int 1, (.int v1)]) (
 cond (1000 < (cl v5 v1 8).toInt) (
 .row [.int 1, (.int v1)]) (
 cond ((sl F1 1).toInt < len v4) (
 cond ((cl v4 (sl F1 1).toInt 1).toInt < (cl v5 v1 7).toInt) (
 .row [.int 1, (.int v1)]) (
 cond ((IntKind.wrap .i64 ((cl v5 v1 6).toInt + (cl v5 v1 8).toInt)) < 0) (
 .row [.int 1, (.int v1)]) (
 cond ((cl v4 (sl F1 1).toInt 1).toInt < (IntKind.wrap .i64 ((cl v5 v1 7).toInt + (cl v5 v1 8).toInt))) (
 .row [.int 1, (.int v1)]) (
 G6 (.int v0) (.int (IntKind.wrap .i64 (v1 + 1))) v2 v3 v4 v5)))) (
 .row [])))))))) (
 .row [.int 1, (.int v1)])) (
 .row [])) (
 .row [])) (
 .row [.int 1, (.int v1)])) (
 .row [])) (
 .row [.int 1, (.int v1)])) (
 .row [])))) (
 .row []))) (
 .row [])) (
 .row [])) (
 cond ((cl v5 v1 2).toInt = 4) (
 cond ((sl F2 0).toInt = 1) (
 cond ((sl F1 0).toInt = 1) (
 cond ((sl F2 1).toInt < 0) (
 .row [.int 1, (.int v1)]) (
 cond ((sl (Im v3 (cl v5 v1 1)) 0).toInt = 1) (
 cond ((sl (Im v3 (cl v5 v1 1)) 1).toInt < 0) (
 .row [.int 1, (.int v1)]) (
 cond (len v5 < v1) (
 .row []) (
 cond ((sl F0 0).toInt = 1) (
 cond ((sl F0 1).toInt < 0) (
 cond ((sl F2 1).toInt < len v3) (
 cond ((A1 (cl v5 v1 3) : Int) < 4611686018427387904) (
 cond ((A1 (cl v5 v1 4) : Int) < 4611686018427387904) (
 cond (eqC (Vv (cl v5 v1 3) (cl v5 v1 4)) 0 0) (
 cond (eqC (cl v5 v1 5) 0 0) (
 cond ((cl v5 v1 6).toInt = 0) (
 cond ((cl v5 v1 7).toInt = 0) (
 cond ((cl v5 v1 8).toInt = 0) (
 G6 (.int v0) (.int (IntKind.wrap .i64 (v1 + 1))) v2 v3 v4 v5) (
 .row [.int 1, (.int v1)])) (
 .row [.int 1, (.int v1)])) (
 .row [.int 1, (.int v1)])) (
 cond ((sl F1 1).toInt < 0) (
 .row [.int 1, (.int v1)]) (
 cond ((cl v5 v1 6).toInt < 0) (
 .row [.int 1, (.int v1)]) (
 cond ((cl v5 v1 7).toInt < (cl v5 v1 6).toInt) (
 .row [.int 1, (.int v1)]) (
 cond ((cl v5 v1 8).toInt < (-1000)) (
 .row [.int 1, (.int v1)]) (
 cond (1000 < (cl v5 v1 8).toInt) (
 .row [.int 1, (.int v1)]) (
 cond ((sl F1 1).toInt < len v4) (
 cond ((cl v4 (sl F1 1).toInt 1).toInt < (cl v5 v1 7).toInt) (
 .row [.int 1, (.int v1)]) (
 cond ((IntKind.wrap .i64 ((cl v5 v1 6).toInt + (cl v5 v1 8).toInt)) < 0) (
 .row [.int 1, (.int v1)]) (
 cond ((cl v4 (sl F1 1).toInt 1).toInt < (IntKind.wrap .i64 ((cl v5 v1 7).toInt + (cl v5 v1 8).toInt))) (
 .row [.int 1, (.int v1)]) (
 G6 (.int v0) (.int (IntKind.wrap .i64 (v1 + 1))) v2 v3 v4 v5)))) (
 .row [])))))))) (
 .row [.int 1, (.int v1)])) (
 .row [])) (
 .row [])) (
 .row [])) (
 .row [.int 1, (.int v1)])) (
 .row [])))) (
 .row []))) (
 .row [])) (
 .row [])) (
 cond ((sl F2 0).toInt = 1) (
 cond ((sl F1 0).toInt = 1) (
 .row [.int 1, (.int v1)]) (
 .row [])) (
 .row [])))))) (
 .row []))) (
 .row [.int 1, (.int (-1))]) := by
  subst h0; subst h1; subst h2; exact gw rfl rfl (cL (cL rfl (cL (cQ (cQ (cQ (cL rfl (cQ (cL rfl (cL rfl (cQ (cL (cL (cQ (cg rfl (cQ (cg rfl (cg rfl rfl (cg rfl (cQ (cQ (cQ rfl rfl) rfl) rfl) (cL rfl (cL rfl (cL rfl (cL rfl (cL rfl rfl))))))) rfl) rfl) rfl) rfl) rfl) rfl) rfl))) rfl)) rfl) rfl) (cQ (cQ (cQ (cL rfl (cQ (cL rfl (cL rfl (cQ (cL (cL (cQ (cg rfl (cQ (cg rfl (cg rfl rfl (cg rfl (cQ (cQ (cQ rfl rfl) rfl) rfl) (cL rfl (cL rfl (cL rfl (cL rfl (cL rfl rfl))))))) rfl) rfl) rfl) rfl) rfl) rfl) rfl))) rfl)) rfl) rfl) (cQ (cQ (cQ (cL rfl (cQ (cL rfl (cL rfl (cQ (cL (cL (cL (cL (cL (cg rfl (cg rfl (cQ (cQ (cQ rfl rfl) rfl) rfl) (cL rfl (cL rfl (cL rfl (cL rfl (cL rfl rfl)))))) rfl) rfl) rfl) rfl) rfl) rfl) rfl))) rfl)) rfl) rfl) (cQ (cQ (cQ (cL rfl (cQ (cL rfl (cL rfl (cQ (cL (cL (cL (cL (cg rfl (cg rfl (cQ (cQ (cQ rfl rfl) rfl) rfl) (cL rfl (cL rfl (cL rfl (cL rfl (cL rfl rfl)))))) rfl) rfl) rfl) rfl) rfl) rfl))) rfl)) rfl) rfl) (cQ (cQ rfl rfl) rfl))))) rfl)) rfl)
theorem dG (v0 v1 v2 v3 : D) : Ub v0 v1 v2 v3 =
  cond ((sl (Ft v0) 0).toInt = 1) (
 cond ((sl (Ft v0) 1).toBool) (
 cond ((sl (Uy (.int (len v2 : Int)) (.int 0) (.int 4) v0 v1 v2 v3) 0).toInt = 1) (
 cond ((sl (Uy (.int (len v2 : Int)) (.int 0) (.int 4) v0 v1 v2 v3) 1).toInt < 0) (
 cond ((sl (SN (.int (len v1 : Int)) (.int 1) (.int 24) v0 v1 v2 v3) 0).toInt = 1) (
 cond ((sl (SN (.int (len v1 : Int)) (.int 1) (.int 24) v0 v1 v2 v3) 1).toInt < 0) (
 cond ((sl (Tz (.int (len v3 : Int)) (.int 0) (.int 80) v0 v1 v2 v3) 0).toInt = 1) (
 cond ((sl (Tz (.int (len v3 : Int)) (.int 0) (.int 80) v0 v1 v2 v3) 1).toInt < 0) (
 .row [.int 1, (.int 0), (.int 0)]) (
 .row [.int 1, (sl (Tz (.int (len v3 : Int)) (.int 0) (.int 80) v0 v1 v2 v3) 1), (.int 293)])) (
 .row [])) (
 .row [.int 1, (sl (SN (.int (len v1 : Int)) (.int 1) (.int 24) v0 v1 v2 v3) 1), (.int 292)])) (
 .row [])) (
 .row [.int 1, (sl (Uy (.int (len v2 : Int)) (.int 0) (.int 4) v0 v1 v2 v3) 1), (.int 291)])) (
 .row [])) (
 .row [.int 1, (.int 0), (.int 290)])) (
 .row []) := gw rfl rfl (cQ (cg rfl (cQ (cL (cQ (cL (cQ rfl rfl) rfl) rfl) rfl) rfl) rfl) rfl)
theorem Zm (v0 : D) (v1 : Bool) (v2 : D) : Dk v0 (.bool v1) v2 =
 QY v0 (.bool v1) (.int 0) v2 := gw rfl rfl rfl
theorem cV (v0 : D) (v1 : Bool) (v2 : Int) (v3 : D) : QY v0 (.bool v1) (.int v2) v3 =
  cond (v2 < len v0) (
 cond (v2 < 0) (
 .row []) (
 cond (D.strEq (cl v0 v2 0) v3) (
 .row [.int 1, (.int v2)]) (
 QY v0 (.bool v1) (.int (IntKind.wrap .i64 (v2 + 1))) v3))) (
 .row [.int 1, (.int (-1))]) := gw rfl rfl rfl
theorem aD (v0 : D) : Cl v0 =
  cond (4 < (len v0 : Int)) (
 .row []) (
 Qk v0 (.int 0) AN (.bool true)) := gw rfl rfl rfl
theorem WM (v0 : D) (v1 : Int) (v2 : D) (v3 : Bool) : Qk v0 (.int v1) v2 (.bool v3) =
  cond (v1 < len v0) (
 cond (v1 < 0) (
 .row []) (
 cond (eqC (cl v0 v1 0) 0 0) (
 .row []) (
 cond ((cl v0 v1 1).toInt < 1) (
 .row []) (
 cond (1000 < (cl v0 v1 1).toInt) (
 .row []) (
 cond ((sl (Dk v2 (.bool v3) (cl v0 v1 0)) 0).toInt = 1) (
 cond ((sl (Dk v2 (.bool v3) (cl v0 v1 0)) 1).toInt < 0) (
 cond ((len v2 : Int) < 1073741824) (
 Qk v0 (.int (IntKind.wrap .i64 (v1 + 1))) (ad v2 (.row [(cl v0 v1 0), (cl v0 v1 1), (.int 0)])) (.bool false)) (
 .row [])) (
 .row [])) (
 .row [])))))) (
 .row [.int 1, v2, (.bool v3)]) := gw rfl rfl (cL (cL rfl (cg rfl rfl (cL rfl (cL rfl (cQ (cL (cL rfl rfl) rfl) rfl))))) rfl)
theorem bO (v0 : D) : Cr v0 =
  cond (v0.isNil) (
 .row [.int 1, AN, (.bool true)]) (
 cond ((len v0 : Int) < 1048576) (
 .row [.int 1, (ct AZ v0), (.bool false)]) (
 .row [])) := gw rfl rfl (cg rfl rfl (cL rfl rfl))
theorem da (v0 : D) : Cq v0 =
  cond (v0.isNil) (
 .row [.int 1, AN, (.bool true)]) (
 cond ((len v0 : Int) < 1048576) (
 .row [.int 1, (ct AZ v0), (.bool false)]) (
 .row [])) := gw rfl rfl (cg rfl rfl (cL rfl rfl))
theorem YZ (v0 : D) : Cj v0 =
  cond (v0.isNil) (
 .row [.int 1, AN, (.bool true)]) (
 cond ((len v0 : Int) < 1048576) (
 .row [.int 1, (ct AZ v0), (.bool false)]) (
 .row [])) := gw rfl rfl (cg rfl rfl (cL rfl rfl))
theorem Z0 (v0 : D) (v1 : Bool) (v2 : D) : Dy v0 (.bool v1) v2 =
 Oe AN (.bool true) v0 (.bool v1) (.int 0) v2 := gw rfl rfl rfl
theorem Wo (v0 : D) (v1 : Bool) (v2 : D) (v3 : Bool) (v4 : Int) (v5 : D) : Oe v0 (.bool v1) v2 (.bool v3) (.int v4) v5 =
  cond (v4 < len v2) (
 cond (v4 < 0) (
 .row []) (
 cond (D.strEq (cl v2 v4 0) v5) (
 cond ((len v0 : Int) < 1073741824) (
 Oe (ad v0 (.row [(cl v2 v4 0), (cl v2 v4 1), (cl v2 v4 2)])) (.bool false) v2 (.bool v3) (.int (IntKind.wrap .i64 (v4 + 1))) v5) (
 .row [])) (
 Oe v0 (.bool v1) v2 (.bool v3) (.int (IntKind.wrap .i64 (v4 + 1))) v5))) (
 .row [.int 1, v0, (.bool v1)]) := gw rfl rfl (cL (cL rfl (cg rfl (cL rfl rfl) rfl)) rfl)
theorem UL (v0 : Int) (v1 v2 v3 : D) (v4 : Bool) (v5 : Int) : GC (.int v0) v1 v2 v3 (.bool v4) (.int v5) =
  cond (v5 < 0) (
 .row [.int 1, (.int 0), (.int 2)]) (
 cond (v5 < 256) (
 cond (v2.toBool) (
 .row [.int 1, (.int 0), (.int 9)]) (
 cond ((mIx [.int .i64] v1 (.row [(.int v5)])) < 0) (
 .row [.int 1, (.int 0), (.int 9)]) (
 .row [.int 1, (.int (IntKind.wrap .i64 ((cl v1 (mIx [.int .i64] v1 (.row [(.int v5)])) 1).toInt - v0))), (.int 0)]))) (
 .row [.int 1, (.int 0), (.int 2)])) := gw rfl rfl rfl
theorem WN (v0 : Int) (v1 v2 v3 : D) (v4 : Bool) (v5 : Int) : Hc (.int v0) v1 v2 v3 (.bool v4) (.int v5) =
  cond ((sl (GC (.int v0) v1 v2 v3 (.bool v4) (.int v5)) 0).toInt = 1) (
 cond ((sl (GC (.int v0) v1 v2 v3 (.bool v4) (.int v5)) 2).toInt = 0) (
 cond (v2.toBool) (
 .row [.int 1, (.int 0), v1]) (
 cond ((mIx [.int .i64] v1 (.row [(.int v5)])) < 0) (
 .row [.int 1, (.int 0), v1]) (
 .row [.int 1, (.int 0), (Je v1 (mIx [.int .i64] v1 (.row [(.int v5)])))]))) (
 .row [.int 1, (sl (GC (.int v0) v1 v2 v3 (.bool v4) (.int v5)) 2), v1])) (
 .row []) := gw rfl rfl (cQ (cQ rfl rfl) rfl)
theorem YP (v0 : Int) (v1 v2 v3 : D) (v4 : Bool) (v5 v6 : Int) : Ef (.int v0) v1 v2 v3 (.bool v4) (.int v5) (.int v6) =
  cond ((len v3 : Int) < 1073741824) (
 Jb (.int (IntKind.wrap .i64 ((len (ad v3 (.row [(.int v5), (.int v6)])) : Int) - 1))) (.int v0) v2 (ad v3 (.row [(.int v5), (.int v6)])) (.bool false) v1) (
 .row []) := gw rfl rfl (cL rfl rfl)
theorem WG (v0 v1 : Int) (v2 v3 : D) (v4 : Bool) (v5 : D) : Jb (.int v0) (.int v1) v2 v3 (.bool v4) v5 =
  cond (0 < v0) (
 cond ((ari .quo .i64 (IntKind.wrap .i64 (v0 - 1)) 2) < 0) (
 .row []) (
 cond ((ari .quo .i64 (IntKind.wrap .i64 (v0 - 1)) 2) < (len v3 : Int)) (
 cond (v0 < len v3) (
 cond ((cl v3 (ari .quo .i64 (IntKind.wrap .i64 (v0 - 1)) 2) 0).toInt < (cl v3 v0 0).toInt) (
 cond ((cl v3 (ari .quo .i64 (IntKind.wrap .i64 (v0 - 1)) 2) 1).toInt < (cl v3 v0 1).toInt) (
 .row [.int 1, v3, (.bool v4)]) (
 cond ((cl v3 v0 1).toInt < (cl v3 (ari .quo .i64 (IntKind.wrap .i64 (v0 - 1)) 2) 1).toInt) (
 .row [.int 1, v3, (.bool v4)]) (
 .row [.int 1, v3, (.bool v4)]))) (
 cond ((cl v3 v0 0).toInt < (cl v3 (ari .quo .i64 (IntKind.wrap .i64 (v0 - 1)) 2) 0).toInt) (
 cond ((cl v3 (ari .quo .i64 (IntKind.wrap .i64 (v0 - 1)) 2) 1).toInt < (cl v3 v0 1).toInt) (
 Jb (.int (ari .quo .i64 (IntKind.wrap .i64 (v0 - 1)) 2)) (.int v1) v2 (upd (upd (upd (upd v3 (ari .quo .i64 (IntKind.wrap .i64 (v0 - 1)) 2) 0 (cl v3 v0 0)) (ari .quo .i64 (IntKind.wrap .i64 (v0 - 1)) 2) 1 (cl v3 v0 1)) v0 0 (cl v3 (ari .quo .i64 (IntKind.wrap .i64 (v0 - 1)) 2) 0)) v0 1 (cl v3 (ari .quo .i64 (IntKind.wrap .i64 (v0 - 1)) 2) 1)) (.bool v4) v5) (
 cond ((cl v3 v0 1).toInt < (cl v3 (ari .quo .i64 (IntKind.wrap .i64 (v0 - 1)) 2) 1).toInt) (
 Jb (.int (ari .quo .i64 (IntKind.wrap .i64 (v0 - 1)) 2)) (.int v1) v2 (upd (upd (upd (upd v3 (ari .quo .i64 (IntKind.wrap .i64 (v0 - 1)) 2) 0 (cl v3 v0 0)) (ari .quo .i64 (IntKind.wrap .i64 (v0 - 1)) 2) 1 (cl v3 v0 1)) v0 0 (cl v3 (ari .quo .i64 (IntKind.wrap .i64 (v0 - 1)) 2) 0)) v0 1 (cl v3 (ari .quo .i64 (IntKind.wrap .i64 (v0 - 1)) 2) 1)) (.bool v4) v5) (
 Jb (.int (ari .quo .i64 (IntKind.wrap .i64 (v0 - 1)) 2)) (.int v1) v2 (upd (upd (upd (upd v3 (ari .quo .i64 (IntKind.wrap .i64 (v0 - 1)) 2) 0 (cl v3 v0 0)) (ari .quo .i64 (IntKind.wrap .i64 (v0 - 1)) 2) 1 (cl v3 v0 1)) v0 0 (cl v3 (ari .quo .i64 (IntKind.wrap .i64 (v0 - 1)) 2) 0)) v0 1 (cl v3 (ari .quo .i64 (IntKind.wrap .i64 (v0 - 1)) 2) 1)) (.bool v4) v5))) (
 cond ((cl v3 (ari .quo .i64 (IntKind.wrap .i64 (v0 - 1)) 2) 1).toInt < (cl v3 v0 1).toInt) (
 .row [.int 1, v3, (.bool v4)]) (
 cond ((cl v3 v0 1).toInt < (cl v3 (ari .quo .i64 (IntKind.wrap .i64 (v0 - 1)) 2) 1).toInt) (
 Jb (.int (ari .quo .i64 (IntKind.wrap .i64 (v0 - 1)) 2)) (.int v1) v2 (upd (upd (upd (upd v3 (ari .quo .i64 (IntKind.wrap .i64 (v0 - 1)) 2) 0 (cl v3 v0 0)) (ari .quo .i64 (IntKind.wrap .i64 (v0 - 1)) 2) 1 (cl v3 v0 1)) v0 0 (cl v3 (ari .quo .i64 (IntKind.wrap .i64 (v0 - 1)) 2) 0)) v0 1 (cl v3 (ari .quo .i64 (IntKind.wrap .i64 (v0 - 1)) 2) 1)) (.bool v4) v5) (
 .row [.int 1, v3, (.bool v4)]))))) (
 .row [])) (
 .row []))) (
 .row [.int 1, v3, (.bool v4)]) := gw rfl rfl rfl
theorem YN (v0 : Int) (v1 v2 v3 : D) (v4 : Bool) (v5 v6 : Int) : Kv (.int v0) v1 v2 v3 (.bool v4) (.int v5) (.int v6) =
  cond (v5 < 0) (
 .row [.int 1, (.int 2), v2, v3, (.bool v4), v1]) (
 cond (v5 < 256) (
 cond (v6 < 0) (
 .row [.int 1, (.int 3), v2, v3, (.bool v4), v1]) (
 cond ((IntKind.wrap .i64 (1099511627776 - v0)) < v6) (
 .row [.int 1, (.int 3), v2, v3, (.bool v4), v1]) (
 cond (v2.toBool) (
 cond ((sl (Ef (.int v0) (ad AZ (.row [(.int v5), (.int (IntKind.wrap .i64 (v0 + v6)))])) (.bool false) v3 (.bool v4) (.int (IntKind.wrap .i64 (v0 + v6))) (.int v5)) 0).toInt = 1) (
 .row [.int 1, (.int 0), (.bool false), (sl (Ef (.int v0) (ad AZ (.row [(.int v5), (.int (IntKind.wrap .i64 (v0 + v6)))])) (.bool false) v3 (.bool v4) (.int (IntKind.wrap .i64 (v0 + v6))) (.int v5)) 1), (sl (Ef (.int v0) (ad AZ (.row [(.int v5), (.int (IntKind.wrap .i64 (v0 + v6)))])) (.bool false) v3 (.bool v4) (.int (IntKind.wrap .i64 (v0 + v6))) (.int v5)) 2), (ad AZ (.row [(.int v5), (.int (IntKind.wrap .i64 (v0 + v6)))]))]) (
 .row [])) (
 cond ((mIx [.int .i64] v1 (.row [(.int v5)])) < 0) (
 cond ((sl (Ef (.int v0) (ad v1 (.row [(.int v5), (.int (IntKind.wrap .i64 (v0 + v6)))])) v2 v3 (.bool v4) (.int (IntKind.wrap .i64 (v0 + v6))) (.int v5)) 0).toInt = 1) (
 .row [.int 1, (.int 0), v2, (sl (Ef (.int v0) (ad v1 (.row [(.int v5), (.int (IntKind.wrap .i64 (v0 + v6)))])) v2 v3 (.bool v4) (.int (IntKind.wrap .i64 (v0 + v6))) (.int v5)) 1), (sl (Ef (.int v0) (ad v1 (.row [(.int v5), (.int (IntKind.wrap .i64 (v0 + v6)))])) v2 v3 (.bool v4) (.int (IntKind.wrap .i64 (v0 + v6))) (.int v5)) 2), (ad v1 (.row [(.int v5), (.int (IntKind.wrap .i64 (v0 + v6)))]))]) (
 .row [])) (
 cond ((sl (Ef (.int v0) (upd v1 (mIx [.int .i64] v1 (.row [(.int v5)])) 1 (.int (IntKind.wrap .i64 (v0 + v6)))) v2 v3 (.bool v4) (.int (IntKind.wrap .i64 (v0 + v6))) (.int v5)) 0).toInt = 1) (
 .row [.int 1, (.int 0), v2, (sl (Ef (.int v0) (upd v1 (mIx [.int .i64] v1 (.row [(.int v5)])) 1 (.int (IntKind.wrap .i64 (v0 + v6)))) v2 v3 (.bool v4) (.int (IntKind.wrap .i64 (v0 + v6))) (.int v5)) 1), (sl (Ef (.int v0) (upd v1 (mIx [.int .i64] v1 (.row [(.int v5)])) 1 (.int (IntKind.wrap .i64 (v0 + v6)))) v2 v3 (.bool v4) (.int (IntKind.wrap .i64 (v0 + v6))) (.int v5)) 2), (upd v1 (mIx [.int .i64] v1 (.row [(.int v5)])) 1 (.int (IntKind.wrap .i64 (v0 + v6))))]) (
 .row [])))))) (
 .row [.int 1, (.int 2), v2, v3, (.bool v4), v1])) := gw rfl rfl (cL rfl (cL (cL rfl (cL rfl (cg rfl (cQ rfl rfl) (cL (cQ rfl rfl) (cQ rfl rfl))))) rfl))
theorem WI (v0 : D) (v1 : Bool) (v2 v3 : D) (v4 : Bool) (v5 : D) (v6 : Bool) (v7 : D) (v8 : Bool) (v9 : D) (v10 : Bool) (v11 v12 : Int) (v13 v14 v15 : D) (v16 v17 : Bool) (v18 : D) (v19 : Bool) (v20 : D) : CY v0 (.bool v1) v2 v3 (.bool v4) v5 (.bool v6) v7 (.bool v8) v9 (.bool v10) (.int v11) (.int v12) v13 v14 v15 (.bool v16) (.bool v17) v18 (.bool v19) v20 =
  cond ((sl (Dy v3 (.bool v4) v20) 0).toInt = 1) (
 cond (0 < (len (sl (Dy v3 (.bool v4) v20) 1) : Int)) (
 cond ((sl (Hc (.int v12) v13 v14 v15 (.bool v16) (.int 0)) 0).toInt = 1) (
 cond (0 < (cl (sl (Dy v3 (.bool v4) v20) 1) 0 2).toInt) (
 cond ((sl (Kv (.int v12) (sl (Hc (.int v12) v13 v14 v15 (.bool v16) (.int 0)) 2) v14 v15 (.bool v16) (.int 0) (cl (sl (Dy v3 (.bool v4) v20) 1) 0 2)) 0).toInt = 1) (
 .row [.int 1, (cl (sl (Dy v3 (.bool v4) v20) 1) 0 0), (cl (sl (Dy v3 (.bool v4) v20) 1) 0 1), (cl (sl (Dy v3 (.bool v4) v20) 1) 0 2), (sl (Kv (.int v12) (sl (Hc (.int v12) v13 v14 v15 (.bool v16) (.int 0)) 2) v14 v15 (.bool v16) (.int 0) (cl (sl (Dy v3 (.bool v4) v20) 1) 0 2)) 2), (sl (Kv (.int v12) (sl (Hc (.int v12) v13 v14 v15 (.bool v16) (.int 0)) 2) v14 v15 (.bool v16) (.int 0) (cl (sl (Dy v3 (.bool v4) v20) 1) 0 2)) 3), (sl (Kv (.int v12) (sl (Hc (.int v12) v13 v14 v15 (.bool v16) (.int 0)) 2) v14 v15 (.bool v16) (.int 0) (cl (sl (Dy v3 (.bool v4) v20) 1) 0 2)) 4), (sl (Kv (.int v12) (sl (Hc (.int v12) v13 v14 v15 (.bool v16) (.int 0)) 2) v14 v15 (.bool v16) (.int 0) (cl (sl (Dy v3 (.bool v4) v20) 1) 0 2)) 5)]) (
 .row [])) (
 .row [.int 1, (cl (sl (Dy v3 (.bool v4) v20) 1) 0 0), (cl (sl (Dy v3 (.bool v4) v20) 1) 0 1), (cl (sl (Dy v3 (.bool v4) v20) 1) 0 2), v14, v15, (.bool v16), (sl (Hc (.int v12) v13 v14 v15 (.bool v16) (.int 0)) 2)])) (
 .row [])) (
 .row [])) (
 .row []) := gw rfl rfl (cQ (cL (cQ (cL (cQ rfl rfl) rfl) rfl) rfl) rfl)
theorem WH (v0 v1 v2 v3 : D) : AX v0 v1 v2 v3 =
  cond ((sl (Ub v0 v1 v2 v3) 0).toInt = 1) (
 cond ((sl (Ub v0 v1 v2 v3) 2).toInt = 0) (
 cond ((sl (Cl v2) 0).toInt = 1) (
 cond ((sl (Cr v1) 0).toInt = 1) (
 cond ((sl (Cq v2) 0).toInt = 1) (
 cond ((sl (Cj v3) 0).toInt = 1) (
 cond (0 < (len v1 : Int)) (
 cond ((sl (CY (sl (Cl v2) 1) (sl (Cl v2) 2) v0 (sl (Cr v1) 1) (sl (Cr v1) 2) (sl (Cq v2) 1) (sl (Cq v2) 2) (sl (Cj v3) 1) (sl (Cj v3) 2) (Ni 0 0) (.bool false) (.int 0) (.int 0) AZ (.bool true) AN (.bool true) (.bool false) AN (.bool true) (cl v1 0 0)) 0).toInt = 1) (
 .row [.int 1, v0, (sl (Cr v1) 1), (sl (Cr v1) 2), (sl (Cq v2) 1), (sl (Cq v2) 2), (sl (Cj v3) 1), (sl (Cj v3) 2), (sl (CY (sl (Cl v2) 1) (sl (Cl v2) 2) v0 (sl (Cr v1) 1) (sl (Cr v1) 2) (sl (Cq v2) 1) (sl (Cq v2) 2) (sl (Cj v3) 1) (sl (Cj v3) 2) (Ni 0 0) (.bool false) (.int 0) (.int 0) AZ (.bool true) AN (.bool true) (.bool false) AN (.bool true) (cl v1 0 0)) 1), (sl (CY (sl (Cl v2) 1) (sl (Cl v2) 2) v0 (sl (Cr v1) 1) (sl (Cr v1) 2) (sl (Cq v2) 1) (sl (Cq v2) 2) (sl (Cj v3) 1) (sl (Cj v3) 2) (Ni 0 0) (.bool false) (.int 0) (.int 0) AZ (.bool true) AN (.bool true) (.bool false) AN (.bool true) (cl v1 0 0)) 2), (sl (CY (sl (Cl v2) 1) (sl (Cl v2) 2) v0 (sl (Cr v1) 1) (sl (Cr v1) 2) (sl (Cq v2) 1) (sl (Cq v2) 2) (sl (Cj v3) 1) (sl (Cj v3) 2) (Ni 0 0) (.bool false) (.int 0) (.int 0) AZ (.bool true) AN (.bool true) (.bool false) AN (.bool true) (cl v1 0 0)) 3), AN, (sl (Cl v2) 1), (sl (Cl v2) 2), (sl (CY (sl (Cl v2) 1) (sl (Cl v2) 2) v0 (sl (Cr v1) 1) (sl (Cr v1) 2) (sl (Cq v2) 1) (sl (Cq v2) 2) (sl (Cj v3) 1) (sl (Cj v3) 2) (Ni 0 0) (.bool false) (.int 0) (.int 0) AZ (.bool true) AN (.bool true) (.bool false) AN (.bool true) (cl v1 0 0)) 4), (sl (CY (sl (Cl v2) 1) (sl (Cl v2) 2) v0 (sl (Cr v1) 1) (sl (Cr v1) 2) (sl (Cq v2) 1) (sl (Cq v2) 2) (sl (Cj v3) 1) (sl (Cj v3) 2) (Ni 0 0) (.bool false) (.int 0) (.int 0) AZ (.bool true) AN (.bool true) (.bool false) AN (.bool true) (cl v1 0 0)) 5), (sl (CY (sl (Cl v2) 1) (sl (Cl v2) 2) v0 (sl (Cr v1) 1) (sl (Cr v1) 2) (sl (Cq v2) 1) (sl (Cq v2) 2) (sl (Cj v3) 1) (sl (Cj v3) 2) (Ni 0 0) (.bool false) (.int 0) (.int 0) AZ (.bool true) AN (.bool true) (.bool false) AN (.bool true) (cl v1 0 0)) 6), (sl (CY (sl (Cl v2) 1) (sl (Cl v2) 2) v0 (sl (Cr v1) 1) (sl (Cr v1) 2) (sl (Cq v2) 1) (sl (Cq v2) 2) (sl (Cj v3) 1) (sl (Cj v3) 2) (Ni 0 0) (.bool false) (.int 0) (.int 0) AZ (.bool true) AN (.bool true) (.bool false) AN (.bool true) (cl v1 0 0)) 7)]) (
 .row [])) (
 .row [])) (
 .row [])) (
 .row [])) (
 .row [])) (
 .row [])) (
 .row [.int 2, (sl (Ub v0 v1 v2 v3) 2)])) (
 .row []) := gw rfl rfl (cQ (cQ (cQ (cQ (cQ (cQ (cL (cQ rfl rfl) rfl) rfl) rfl) rfl) rfl) rfl) rfl)
theorem cX (v0 : D) (v1 : Bool) : IS v0 (.bool v1) =
  cond (v1) (
 .row [.int 1, AN, (.bool true)]) (
 cond ((len v0 : Int) < 1048576) (
 .row [.int 1, (ct AZ v0), (.bool false)]) (
 .row [])) := gw rfl rfl (cg rfl rfl (cL rfl rfl))
theorem Y2 (v0 : Int) (v1 v2 v3 : D) (v4 : Bool) : Md (.int v0) v1 v2 v3 (.bool v4) =
  cond (v2.toBool) (
 cond ((sl (IS v3 (.bool v4)) 0).toInt = 1) (
 .row [.int 1, (.int v0), (.bool true), (sl (IS v3 (.bool v4)) 1), (sl (IS v3 (.bool v4)) 2), AZ]) (
 .row [])) (
 cond ((sl (IS v3 (.bool v4)) 0).toInt = 1) (
 .row [.int 1, (.int v0), (.bool false), (sl (IS v3 (.bool v4)) 1), (sl (IS v3 (.bool v4)) 2), v1]) (
 .row [])) := gw rfl rfl (cg rfl (cQ rfl rfl) (cQ rfl rfl))
theorem br (v0 : Int) (v1 v2 v3 : D) (v4 : Bool) : FW (.int v0) v1 v2 v3 (.bool v4) =
  cond ((IntKind.wrap .i64 ((len v3 : Int) - 1)) < 0) (
 .row []) (
 cond ((IntKind.wrap .i64 ((len v3 : Int) - 1)) < (len v3 : Int)) (
 cond (0 < (len v3 : Int)) (
 cond ((len (upd (upd v3 0 0 (cl v3 (IntKind.wrap .i64 ((len v3 : Int) - 1)) 0)) 0 1 (cl v3 (IntKind.wrap .i64 ((len v3 : Int) - 1)) 1)) : Int) < (IntKind.wrap .i64 ((len v3 : Int) - 1))) (
 .row []) (
 Rm (.int (IntKind.wrap .i64 ((len v3 : Int) - 1))) (.int 0) (.int v0) v2 (sb (upd (upd v3 0 0 (cl v3 (IntKind.wrap .i64 ((len v3 : Int) - 1)) 0)) 0 1 (cl v3 (IntKind.wrap .i64 ((len v3 : Int) - 1)) 1)) 0 (IntKind.wrap .i64 ((len v3 : Int) - 1))) (.bool v4) v1)) (
 .row [])) (
 .row [])) := gw rfl rfl rfl
theorem Wr (v0 v1 v2 : Int) (v3 v4 : D) (v5 : Bool) (v6 : D) : Rm (.int v0) (.int v1) (.int v2) v3 v4 (.bool v5) v6 =
 Bz (.int v0) (.int v1) (.int v1) (.int 0) (.int v2) v3 v4 (.bool v5) v6 (.int (IntKind.wrap .i64 ((IntKind.wrap .i64 (2 * v1)) + 1))) (.int (IntKind.wrap .i64 ((IntKind.wrap .i64 (2 * v1)) + 2))) := gw rfl rfl rfl
theorem QK (v0 v1 v2 v3 v4 : Int) (v5 v6 : D) (v7 : Bool) (v8 : D) (v9 v10 : Int) : Bz (.int v0) (.int v1) (.int v2) (.int v3) (.int v4) v5 v6 (.bool v7) v8 (.int v9) (.int v10) =
  cond (v3 < 2) (
 cond (v3 = 0) (
 cond (v9 < v0) (
 cond (v9 < 0) (
 .row []) (
 cond (v9 < len v6) (
 cond (v2 < 0) (
 .row []) (
 cond (v2 < len v6) (
 cond ((cl v6 v9 0).toInt < (cl v6 v2 0).toInt) (
 cond ((cl v6 v9 1).toInt < (cl v6 v2 1).toInt) (
 Bz (.int v0) (.int v1) (.int v9) (.int (IntKind.wrap .i64 (v3 + 1))) (.int v4) v5 v6 (.bool v7) v8 (.int v9) (.int v10)) (
 cond ((cl v6 v2 1).toInt < (cl v6 v9 1).toInt) (
 Bz (.int v0) (.int v1) (.int v9) (.int (IntKind.wrap .i64 (v3 + 1))) (.int v4) v5 v6 (.bool v7) v8 (.int v9) (.int v10)) (
 Bz (.int v0) (.int v1) (.int v9) (.int (IntKind.wrap .i64 (v3 + 1))) (.int v4) v5 v6 (.bool v7) v8 (.int v9) (.int v10)))) (
 cond ((cl v6 v2 0).toInt < (cl v6 v9 0).toInt) (
 cond ((cl v6 v9 1).toInt < (cl v6 v2 1).toInt) (
 Bz (.int v0) (.int v1) (.int v2) (.int (IntKind.wrap .i64 (v3 + 1))) (.int v4) v5 v6 (.bool v7) v8 (.int v9) (.int v10)) (
 cond ((cl v6 v2 1).toInt < (cl v6 v9 1).toInt) (
 Bz (.int v0) (.int v1) (.int v2) (.int (IntKind.wrap .i64 (v3 + 1))) (.int v4) v5 v6 (.bool v7) v8 (.int v9) (.int v10)) (
 Bz (.int v0) (.int v1) (.int v2) (.int (IntKind.wrap .i64 (v3 + 1))) (.int v4) v5 v6 (.bool v7) v8 (.int v9) (.int v10)))) (
 cond ((cl v6 v9 1).toInt < (cl v6 v2 1).toInt) (
 Bz (.int v0) (.int v1) (.int v9) (.int (IntKind.wrap .i64 (v3 + 1))) (.int v4) v5 v6 (.bool v7) v8 (.int v9) (.int v10)) (
 cond ((cl v6 v2 1).toInt < (cl v6 v9 1).toInt) (
 Bz (.int v0) (.int v1) (.int v2) (.int (IntKind.wrap .i64 (v3 + 1))) (.int v4) v5 v6 (.bool v7) v8 (.int v9) (.int v10)) (
 Bz (.int v0) (.int v1) (.int v2) (.int (IntKind.wrap .i64 (v3 + 1))) (.int v4) v5 v6 (.bool v7) v8 (.int v9) (.int v10)))))) (
 .row []))) (
 .row []))) (
 Bz (.int v0) (.int v1) (.int v2) (.int (IntKind.wrap .i64 (v3 + 1))) (.int v4) v5 v6 (.bool v7) v8 (.int v9) (.int v10))) (
 cond (v3 = 1) (
 cond (v10 < v0) (
 cond (v10 < 0) (
 .row []) (
 cond (v10 < len v6) (
 cond (v2 < 0) (
 .row []) (
 cond (v2 < len v6) (
 cond ((cl v6 v10 0).toInt < (cl v6 v2 0).toInt) (
 cond ((cl v6 v10 1).toInt < (cl v6 v2 1).toInt) (
 Bz (.int v0) (.int v1) (.int v10) (.int (IntKind.wrap .i64 (v3 + 1))) (.int v4) v5 v6 (.bool v7) v8 (.int v9) (.int v10)) (
 cond ((cl v6 v2 1).toInt < (cl v6 v10 1).toInt) (
 Bz (.int v0) (.int v1) (.int v10) (.int (IntKind.wrap .i64 (v3 + 1))) (.int v4) v5 v6 (.bool v7) v8 (.int v9) (.int v10)) (
 Bz (.int v0) (.int v1) (.int v10) (.int (IntKind.wrap .i64 (v3 + 1))) (.int v4) v5 v6 (.bool v7) v8 (.int v9) (.int v10)))) (
 cond ((cl v6 v2 0).toInt < (cl v6 v10 0).toInt) (
 cond ((cl v6 v10 1).toInt < (cl v6 v2 1).toInt) (
 Bz (.int v0) (.int v1) (.int v2) (.int (IntKind.wrap .i64 (v3 + 1))) (.int v4) v5 v6 (.bool v7) v8 (.int v9) (.int v10)) (
 cond ((cl v6 v2 1).toInt < (cl v6 v10 1).toInt) (
 Bz (.int v0) (.int v1) (.int v2) (.int (IntKind.wrap .i64 (v3 + 1))) (.int v4) v5 v6 (.bool v7) v8 (.int v9) (.int v10)) (
 Bz (.int v0) (.int v1) (.int v2) (.int (IntKind.wrap .i64 (v3 + 1))) (.int v4) v5 v6 (.bool v7) v8 (.int v9) (.int v10)))) (
 cond ((cl v6 v10 1).toInt < (cl v6 v2 1).toInt) (
 Bz (.int v0) (.int v1) (.int v10) (.int (IntKind.wrap .i64 (v3 + 1))) (.int v4) v5 v6 (.bool v7) v8 (.int v9) (.int v10)) (
 cond ((cl v6 v2 1).toInt < (cl v6 v10 1).toInt) (
 Bz (.int v0) (.int v1) (.int v2) (.int (IntKind.wrap .i64 (v3 + 1))) (.int v4) v5 v6 (.bool v7) v8 (.int v9) (.int v10)) (
 Bz (.int v0) (.int v1) (.int v2) (.int (IntKind.wrap .i64 (v3 + 1))) (.int v4) v5 v6 (.bool v7) v8 (.int v9) (.int v10)))))) (
 .row []))) (
 .row []))) (
 Bz (.int v0) (.int v1) (.int v2) (.int (IntKind.wrap .i64 (v3 + 1))) (.int v4) v5 v6 (.bool v7) v8 (.int v9) (.int v10))) (
 .row []))) (
 cond (v2 = v1) (
 .row [.int 1, v6, (.bool v7)]) (
 cond (v2 < 0) (
 .row []) (
 cond (v2 < len v6) (
 cond (v1 < 0) (
 .row []) (
 cond (v1 < len v6) (
 Rm (.int v0) (.int v2) (.int v4) v5 (upd (upd (upd (upd v6 v1 0 (cl v6 v2 0)) v1 1 (cl v6 v2 1)) v2 0 (cl v6 v1 0)) v2 1 (cl v6 v1 1)) (.bool v7) v8) (
 .row []))) (
 .row [])))) := gw rfl rfl (cL (cQ rfl (cQ rfl rfl)) (cQ rfl rfl))
theorem Rd (v0 : Int) (v1 v2 v3 : D) (v4 : Bool) : Bo (.int v0) v1 v2 v3 (.bool v4) =
 I6 (.int v0) v2 v3 (.bool v4) v1 := gw rfl rfl rfl
theorem Ue (v0 : Int) (v1 v2 : D) (v3 : Bool) (v4 : D) : I6 (.int v0) v1 v2 (.bool v3) v4 =
  cond (0 < (len v2 : Int)) (
 cond (v1.toBool) (
 cond ((sl (FW (.int v0) v4 v1 v2 (.bool v3)) 0).toInt = 1) (
 I6 (.int v0) v1 (sl (FW (.int v0) v4 v1 v2 (.bool v3)) 1) (sl (FW (.int v0) v4 v1 v2 (.bool v3)) 2) v4) (
 .row [])) (
 cond ((mIx [.int .i64] v4 (.row [(cl v2 0 1)])) < 0) (
 cond ((sl (FW (.int v0) v4 v1 v2 (.bool v3)) 0).toInt = 1) (
 I6 (.int v0) v1 (sl (FW (.int v0) v4 v1 v2 (.bool v3)) 1) (sl (FW (.int v0) v4 v1 v2 (.bool v3)) 2) v4) (
 .row [])) (
 cond ((cl v4 (mIx [.int .i64] v4 (.row [(cl v2 0 1)])) 1).toInt = (cl v2 0 0).toInt) (
 .row [.int 1, (cl v2 0 0), (cl v2 0 1), (.bool true), v2, (.bool v3)]) (
 cond ((sl (FW (.int v0) v4 v1 v2 (.bool v3)) 0).toInt = 1) (
 I6 (.int v0) v1 (sl (FW (.int v0) v4 v1 v2 (.bool v3)) 1) (sl (FW (.int v0) v4 v1 v2 (.bool v3)) 2) v4) (
 .row []))))) (
 .row [.int 1, (.int 0), (.int 0), (.bool false), v2, (.bool v3)]) := gw rfl rfl (cL (cg rfl (cQ rfl rfl) (cL (cQ rfl rfl) (cQ rfl (cQ rfl rfl)))) rfl)
theorem Zi (v0 : Int) (v1 v2 v3 : D) (v4 : Bool) (v5 : Int) : KY (.int v0) v1 v2 v3 (.bool v4) (.int v5) =
  cond (1099511627776 < v5) (
 .row [.int 1, AN, (.bool true), (.int 3), (.int v0), v3, (.bool v4), v1]) (
 cond (v0 < v5) (
 cond ((sl (Bo (.int v5) v1 v2 v3 (.bool v4)) 0).toInt = 1) (
 KZ AN (.bool true) (sl (Bo (.int v5) v1 v2 v3 (.bool v4)) 3) (.int v5) v2 (sl (Bo (.int v5) v1 v2 v3 (.bool v4)) 4) (sl (Bo (.int v5) v1 v2 v3 (.bool v4)) 5) v1 (sl (Bo (.int v5) v1 v2 v3 (.bool v4)) 1) (sl (Bo (.int v5) v1 v2 v3 (.bool v4)) 2)) (
 .row [])) (
 cond ((sl (Bo (.int v0) v1 v2 v3 (.bool v4)) 0).toInt = 1) (
 KZ AN (.bool true) (sl (Bo (.int v0) v1 v2 v3 (.bool v4)) 3) (.int v0) v2 (sl (Bo (.int v0) v1 v2 v3 (.bool v4)) 4) (sl (Bo (.int v0) v1 v2 v3 (.bool v4)) 5) v1 (sl (Bo (.int v0) v1 v2 v3 (.bool v4)) 1) (sl (Bo (.int v0) v1 v2 v3 (.bool v4)) 2)) (
 .row []))) := gw rfl rfl (cL rfl (cL (cQ rfl rfl) (cQ rfl rfl)))
theorem Q2 (v0 : D) (v1 v2 : Bool) (v3 : Int) (v4 v5 : D) (v6 : Bool) (v7 : D) (v8 v9 : Int) : KZ v0 (.bool v1) (.bool v2) (.int v3) v4 v5 (.bool v6) v7 (.int v8) (.int v9) =
  cond (v2) (
 cond (v3 < v8) (
 .row [.int 1, v0, (.bool v1), (.int 0), (.int v3), v5, (.bool v6), v7]) (
 cond ((len v0 : Int) < 1073741824) (
 cond (v4.toBool) (
 cond ((sl (Bo (.int v3) v7 v4 v5 (.bool v6)) 0).toInt = 1) (
 KZ (ad v0 (.row [(.int v9)])) (.bool false) (sl (Bo (.int v3) v7 v4 v5 (.bool v6)) 3) (.int v3) v4 (sl (Bo (.int v3) v7 v4 v5 (.bool v6)) 4) (sl (Bo (.int v3) v7 v4 v5 (.bool v6)) 5) v7 (sl (Bo (.int v3) v7 v4 v5 (.bool v6)) 1) (sl (Bo (.int v3) v7 v4 v5 (.bool v6)) 2)) (
 .row [])) (
 cond ((mIx [.int .i64] v7 (.row [(.int v9)])) < 0) (
 cond ((sl (Bo (.int v3) v7 v4 v5 (.bool v6)) 0).toInt = 1) (
 KZ (ad v0 (.row [(.int v9)])) (.bool false) (sl (Bo (.int v3) v7 v4 v5 (.bool v6)) 3) (.int v3) v4 (sl (Bo (.int v3) v7 v4 v5 (.bool v6)) 4) (sl (Bo (.int v3) v7 v4 v5 (.bool v6)) 5) v7 (sl (Bo (.int v3) v7 v4 v5 (.bool v6)) 1) (sl (Bo (.int v3) v7 v4 v5 (.bool v6)) 2)) (
 .row [])) (
 cond ((sl (Bo (.int v3) (Je v7 (mIx [.int .i64] v7 (.row [(.int v9)]))) v4 v5 (.bool v6)) 0).toInt = 1) (
 KZ (ad v0 (.row [(.int v9)])) (.bool false) (sl (Bo (.int v3) (Je v7 (mIx [.int .i64] v7 (.row [(.int v9)]))) v4 v5 (.bool v6)) 3) (.int v3) v4 (sl (Bo (.int v3) (Je v7 (mIx [.int .i64] v7 (.row [(.int v9)]))) v4 v5 (.bool v6)) 4) (sl (Bo (.int v3) (Je v7 (mIx [.int .i64] v7 (.row [(.int v9)]))) v4 v5 (.bool v6)) 5) (Je v7 (mIx [.int .i64] v7 (.row [(.int v9)]))) (sl (Bo (.int v3) (Je v7 (mIx [.int .i64] v7 (.row [(.int v9)]))) v4 v5 (.bool v6)) 1) (sl (Bo (.int v3) (Je v7 (mIx [.int .i64] v7 (.row [(.int v9)]))) v4 v5 (.bool v6)) 2)) (
 .row [])))) (
 .row []))) (
 .row [.int 1, v0, (.bool v1), (.int 0), (.int v3), v5, (.bool v6), v7]) := gw rfl rfl (cg rfl (cL rfl (cL (cg rfl (cQ rfl rfl) (cL (cQ rfl rfl) (cQ rfl rfl))) rfl)) rfl)
theorem Y7 (v0 : D) (v1 : Bool) : Dj v0 (.bool v1) =
  cond (v1) (
 .row [.int 1, AN, (.bool true)]) (
 cond ((len v0 : Int) < 1048576) (
 .row [.int 1, (ct AZ v0), (.bool false)]) (
 .row [])) := gw rfl rfl (cg rfl rfl (cL rfl rfl))
theorem Y5 (v0 : D) (v1 : Bool) (v2 : D) : Fo v0 (.bool v1) v2 =
  cond ((sl (Dk v0 (.bool v1) v2) 0).toInt = 1) (
 cond ((sl (Dk v0 (.bool v1) v2) 1).toInt < 0) (
 .row [.int 1, (.int 0), (.int 9)]) (
 cond ((sl (Dk v0 (.bool v1) v2) 1).toInt < len v0) (
 .row [.int 1, (cl v0 (sl (Dk v0 (.bool v1) v2) 1).toInt 2), (.int 0)]) (
 .row []))) (
 .row []) := gw rfl rfl (cQ rfl rfl)
theorem cK (v0 : D) (v1 : Bool) (v2 v3 : D) (v4 : Int) (v5 v6 v7 : D) (v8 v9 v10 : Int) : Fp v0 (.bool v1) v2 v3 (.int v4) v5 v6 v7 (.int v8) (.int v9) (.int v10) =
  cond (eqC v7 0 0) (
 .row [.int 1, (.bool true), (.int 0)]) (
 cond ((sl (Fo v0 (.bool v1) v7) 0).toInt = 1) (
 cond ((sl (Fo v0 (.bool v1) v7) 2).toInt = 0) (
 cond ((sl (Dk v0 (.bool v1) v7) 0).toInt = 1) (
 cond ((sl (Dk v0 (.bool v1) v7) 1).toInt < 0) (
 .row []) (
 cond ((sl (Dk v0 (.bool v1) v7) 1).toInt < len v0) (
 cond ((sl (Fo v0 (.bool v1) v7) 1).toInt < v8) (
 .row [.int 1, (.bool false), (.int 0)]) (
 cond (v9 < (sl (Fo v0 (.bool v1) v7) 1).toInt) (
 .row [.int 1, (.bool false), (.int 0)]) (
 cond (v10 < (IntKind.wrap .i64 (0 - (sl (Fo v0 (.bool v1) v7) 1).toInt))) (
 .row [.int 1, (.bool false), (.int 0)]) (
 .row [.int 1, (.bool (!decide ((IntKind.wrap .i64 ((cl v0 (sl (Dk v0 (.bool v1) v7) 1).toInt 1).toInt - (sl (Fo v0 (.bool v1) v7) 1).toInt)) < v10))), (.int 0)])))) (
 .row []))) (
 .row [])) (
 .row [.int 1, (.bool false), (sl (Fo v0 (.bool v1) v7) 2)])) (
 .row [])) := gw rfl rfl (cg rfl rfl (cQ (cQ (cQ rfl rfl) rfl) rfl))
theorem Zu (v0 : D) (v1 : Bool) (v2 v3 : D) (v4 : Bool) (v5 : D) (v6 : Bool) (v7 : D) (v8 : Bool) (v9 : D) (v10 : Bool) (v11 v12 : Int) (v13 v14 v15 : D) (v16 v17 : Bool) (v18 : D) (v19 v20 : Bool) (v21 v22 : D) (v23 : Int) (v24 v25 v26 : D) (v27 v28 v29 : Int) : Qv v0 (.bool v1) v2 v3 (.bool v4) v5 (.bool v6) v7 (.bool v8) v9 (.bool v10) (.int v11) (.int v12) v13 v14 v15 (.bool v16) (.bool v17) v18 (.bool v19) (.bool v20) v21 v22 (.int v23) v24 v25 v26 (.int v27) (.int v28) (.int v29) =
 KH (.int 0) v2 v3 (.bool v4) v5 (.bool v6) v7 (.bool v8) v9 (.bool v10) (.int v11) (.bool v17) v18 (.bool v19) v0 (.bool v1) (.int v12) v14 v15 (.bool v16) v13 v21 v22 (.int v23) v24 v25 v26 (.int v27) (.int v28) (.int v29) (.bool v20) := gw rfl rfl rfl
theorem Q6 (v0 : Int) (v1 v2 : D) (v3 : Bool) (v4 : D) (v5 : Bool) (v6 : D) (v7 : Bool) (v8 : D) (v9 : Bool) (v10 : Int) (v11 : Bool) (v12 : D) (v13 : Bool) (v14 : D) (v15 : Bool) (v16 : Int) (v17 v18 : D) (v19 : Bool) (v20 v21 v22 : D) (v23 : Int) (v24 v25 v26 : D) (v27 v28 v29 : Int) (v30 : Bool) : KH (.int v0) v1 v2 (.bool v3) v4 (.bool v5) v6 (.bool v7) v8 (.bool v9) (.int v10) (.bool v11) v12 (.bool v13) v14 (.bool v15) (.int v16) v17 v18 (.bool v19) v20 v21 v22 (.int v23) v24 v25 v26 (.int v27) (.int v28) (.int v29) (.bool v30) =
  cond (v0 < 3) (
 cond (v0 = 0) (
 cond (D.strEq v21 v8) (
 KH (.int (IntKind.wrap .i64 (v0 + 1))) v1 v2 (.bool v3) v4 (.bool v5) v6 (.bool v7) v8 (.bool v9) (.int v10) (.bool v11) v12 (.bool v13) v14 (.bool v15) (.int v16) v17 v18 (.bool v19) v20 v21 v22 (.int v23) v24 v25 v26 (.int v27) (.int v28) (.int v29) (.bool v30)) (
 .row [.int 1, (.bool false)])) (
 cond (v0 = 1) (
 cond ((sl (Fp v14 (.bool v15) v21 v22 (.int v23) v24 v25 v26 (.int v27) (.int v28) (.int v29)) 0).toInt = 1) (
 cond ((sl (Fp v14 (.bool v15) v21 v22 (.int v23) v24 v25 v26 (.int v27) (.int v28) (.int v29)) 1).toBool) (
 KH (.int (IntKind.wrap .i64 (v0 + 1))) v1 v2 (.bool v3) v4 (.bool v5) v6 (.bool v7) v8 (.bool v9) (.int v10) (.bool v11) v12 (.bool v13) v14 (.bool v15) (.int v16) v17 v18 (.bool v19) v20 v21 v22 (.int v23) v24 v25 v26 (.int v27) (.int v28) (.int v29) (.bool v30)) (
 .row [.int 1, (.bool false)])) (
 .row [])) (
 cond (v0 = 2) (
 cond (v23 = 3) (
 cond (v30) (
 KH (.int (IntKind.wrap .i64 (v0 + 1))) v1 v2 (.bool v3) v4 (.bool v5) v6 (.bool v7) v8 (.bool v9) (.int v10) (.bool v11) v12 (.bool v13) v14 (.bool v15) (.int v16) v17 v18 (.bool v19) v20 v21 v22 (.int v23) v24 v25 v26 (.int v27) (.int v28) (.int v29) (.bool v30)) (
 .row [.int 1, (.bool false)])) (
 KH (.int (IntKind.wrap .i64 (v0 + 1))) v1 v2 (.bool v3) v4 (.bool v5) v6 (.bool v7) v8 (.bool v9) (.int v10) (.bool v11) v12 (.bool v13) v14 (.bool v15) (.int v16) v17 v18 (.bool v19) v20 v21 v22 (.int v23) v24 v25 v26 (.int v27) (.int v28) (.int v29) (.bool v30))) (
 .row [])))) (
 .row [.int 1, (.bool true)]) := gw rfl rfl (cL (cQ rfl (cQ (cQ rfl rfl) (cQ (cQ rfl rfl) rfl))) rfl)
theorem cD (v0 : D) (v1 : Bool) (v2 : D) (v3 : Bool) (v4 v5 : D) (v6 : Bool) (v7 : D) (v8 : Bool) (v9 : D) (v10 : Bool) (v11 : D) (v12 : Bool) (v13 v14 : Int) (v15 v16 v17 : D) (v18 v19 : Bool) (v20 : D) (v21 v22 : Bool) (v23 : D) (v24 : Bool) (v25 : D) : KB v0 (.bool v1) v2 (.bool v3) v4 v5 (.bool v6) v7 (.bool v8) v9 (.bool v10) v11 (.bool v12) (.int v13) (.int v14) v15 v16 v17 (.bool v18) (.bool v19) v20 (.bool v21) (.bool v22) v23 (.bool v24) v25 =
 Ml v23 (.bool v24) (.int 0) v0 (.bool v1) (.bool v22) v4 v5 (.bool v6) v7 (.bool v8) v9 (.bool v10) v11 (.bool v12) (.int v13) (.bool v19) v20 (.bool v21) v2 (.bool v3) (.int v14) v16 v17 (.bool v18) v15 v25 := gw rfl rfl rfl
theorem Wu (v0 : D) (v1 : Bool) (v2 : Int) (v3 : D) (v4 v5 : Bool) (v6 v7 : D) (v8 : Bool) (v9 : D) (v10 : Bool) (v11 : D) (v12 : Bool) (v13 : D) (v14 : Bool) (v15 : Int) (v16 : Bool) (v17 : D) (v18 : Bool) (v19 : D) (v20 : Bool) (v21 : Int) (v22 v23 : D) (v24 : Bool) (v25 v26 : D) : Ml v0 (.bool v1) (.int v2) v3 (.bool v4) (.bool v5) v6 v7 (.bool v8) v9 (.bool v10) v11 (.bool v12) v13 (.bool v14) (.int v15) (.bool v16) v17 (.bool v18) v19 (.bool v20) (.int v21) v22 v23 (.bool v24) v25 v26 =
  cond (v2 < len v0) (
 cond (v2 < 0) (
 .row []) (
 cond (D.strEq (cl v0 v2 0) v26) (
 cond ((sl (Qv v19 (.bool v20) v6 v7 (.bool v8) v9 (.bool v10) v11 (.bool v12) v13 (.bool v14) (.int v15) (.int v21) v25 v22 v23 (.bool v24) (.bool v16) v17 (.bool v18) (.bool v5) (cl v0 v2 0) (cl v0 v2 1) (cl v0 v2 2) (cl v0 v2 3) (cl v0 v2 4) (cl v0 v2 5) (cl v0 v2 6) (cl v0 v2 7) (cl v0 v2 8)) 0).toInt = 1) (
 cond ((sl (Qv v19 (.bool v20) v6 v7 (.bool v8) v9 (.bool v10) v11 (.bool v12) v13 (.bool v14) (.int v15) (.int v21) v25 v22 v23 (.bool v24) (.bool v16) v17 (.bool v18) (.bool v5) (cl v0 v2 0) (cl v0 v2 1) (cl v0 v2 2) (cl v0 v2 3) (cl v0 v2 4) (cl v0 v2 5) (cl v0 v2 6) (cl v0 v2 7) (cl v0 v2 8)) 1).toBool) (
 cond ((len v3 : Int) < 1073741824) (
 Ml v0 (.bool v1) (.int (IntKind.wrap .i64 (v2 + 1))) (ad v3 (.row [(.int v2)])) (.bool false) (.bool v5) v6 v7 (.bool v8) v9 (.bool v10) v11 (.bool v12) v13 (.bool v14) (.int v15) (.bool v16) v17 (.bool v18) v19 (.bool v20) (.int v21) v22 v23 (.bool v24) v25 v26) (
 .row [])) (
 Ml v0 (.bool v1) (.int (IntKind.wrap .i64 (v2 + 1))) v3 (.bool v4) (.bool v5) v6 v7 (.bool v8) v9 (.bool v10) v11 (.bool v12) v13 (.bool v14) (.int v15) (.bool v16) v17 (.bool v18) v19 (.bool v20) (.int v21) v22 v23 (.bool v24) v25 v26)) (
 .row [])) (
 Ml v0 (.bool v1) (.int (IntKind.wrap .i64 (v2 + 1))) v3 (.bool v4) (.bool v5) v6 v7 (.bool v8) v9 (.bool v10) v11 (.bool v12) v13 (.bool v14) (.int v15) (.bool v16) v17 (.bool v18) v19 (.bool v20) (.int v21) v22 v23 (.bool v24) v25 v26))) (
 .row [.int 1, v3, (.bool v4)]) := gw rfl rfl (cL (cL rfl (cg rfl (cQ (cg rfl (cL rfl rfl) rfl) rfl) rfl)) rfl)
theorem SP (v0 : D) (v1 : Bool) (v2 v3 : D) (v4 : Bool) (v5 : D) (v6 : Bool) (v7 : D) (v8 : Bool) (v9 : D) (v10 : Bool) (v11 v12 : Int) (v13 v14 v15 : D) (v16 v17 : Bool) (v18 : D) (v19 : Bool) (v20 : Int) {F0 F1 : D} (h0 : Md (.int v12) v13 v14 v15 (.bool v16) = F0) (h1 : KY (sl F0 1) (sl F0 5) (sl F0 2) (sl F0 3) (sl F0 4) (.int v20) = F1) : TZ v0 (.bool v1) v2 v3 (.bool v4) v5 (.bool v6) v7 (.bool v8) v9 (.bool v10) (.int v11) (.int v12) v13 v14 v15 (.bool v16) (.bool v17) v18 (.bool v19) (.int v20) =
  cond (v20 < v12) (
 .row [.int 1, AN, (.bool true), (.int 3), (.bool v17), v13, v15, (.int v12), v14, (.bool v16)]) (
 cond (1099511627776 < v20) (
 .row [.int 1, AN, (.bool true), (.int 3), (.bool v17), v13, v15, (.int v12), v14, (.bool v16)]) (
 cond ((sl F0 0).toInt = 1) (
 cond ((sl F1 0).toInt = 1) (
 cond (v17) (
 cond ((sl (Dj v7 (.bool v8)) 0).toInt = 1) (
 cond ((sl (KB AN (.bool true) v0 (.bool v1) v2 v3 (.bool v4) v5 (.bool v6) v7 (.bool v8) v9 (.bool v10) (.int v11) (sl F1 4) (sl F1 7) (sl F0 2) (sl F1 5) (sl F1 6) (.bool true) v18 (.bool v19) (.bool true) (sl (Dj v7 (.bool v8)) 1) (sl (Dj v7 (.bool v8)) 2) v9) 0).toInt = 1) (
 .row [.int 1, (sl (KB AN (.bool true) v0 (.bool v1) v2 v3 (.bool v4) v5 (.bool v6) v7 (.bool v8) v9 (.bool v10) (.int v11) (sl F1 4) (sl F1 7) (sl F0 2) (sl F1 5) (sl F1 6) (.bool true) v18 (.bool v19) (.bool true) (sl (Dj v7 (.bool v8)) 1) (sl (Dj v7 (.bool v8)) 2) v9) 1), (sl (KB AN (.bool true) v0 (.bool v1) v2 v3 (.bool v4) v5 (.bool v6) v7 (.bool v8) v9 (.bool v10) (.int v11) (sl F1 4) (sl F1 7) (sl F0 2) (sl F1 5) (sl F1 6) (.bool true) v18 (.bool v19) (.bool true) (sl (Dj v7 (.bool v8)) 1) (sl (Dj v7 (.bool v8)) 2) v9) 2), (.int 0), (.bool true), (sl F1 7), (sl F1 5), (sl F1 4), (sl F0 2), (sl F1 6)]) (
 .row [])) (
 .row [])) (
 cond ((sl (Dj v7 (.bool v8)) 0).toInt = 1) (
 cond ((sl (KB AN (.bool true) v0 (.bool v1) v2 v3 (.bool v4) v5 (.bool v6) v7 (.bool v8) v9 (.bool v10) (.int v11) (sl F1 4) (sl F1 7) (sl F0 2) (sl F1 5) (sl F1 6) (.bool (decide (0 < (len (sl F1 1) : Int)))) v18 (.bool v19) (.bool (decide (0 < (len (sl F1 1) : Int)))) (sl (Dj v7 (.bool v8)) 1) (sl (Dj v7 (.bool v8)) 2) v9) 0).toInt = 1) (
 .row [.int 1, (sl (KB AN (.bool true) v0 (.bool v1) v2 v3 (.bool v4) v5 (.bool v6) v7 (.bool v8) v9 (.bool v10) (.int v11) (sl F1 4) (sl F1 7) (sl F0 2) (sl F1 5) (sl F1 6) (.bool (decide (0 < (len (sl F1 1) : Int)))) v18 (.bool v19) (.bool (decide (0 < (len (sl F1 1) : Int)))) (sl (Dj v7 (.bool v8)) 1) (sl (Dj v7 (.bool v8)) 2) v9) 1), (sl (KB AN (.bool true) v0 (.bool v1) v2 v3 (.bool v4) v5 (.bool v6) v7 (.bool v8) v9 (.bool v10) (.int v11) (sl F1 4) (sl F1 7) (sl F0 2) (sl F1 5) (sl F1 6) (.bool (decide (0 < (len (sl F1 1) : Int)))) v18 (.bool v19) (.bool (decide (0 < (len (sl F1 1) : Int)))) (sl (Dj v7 (.bool v8)) 1) (sl (Dj v7 (.bool v8)) 2) v9) 2), (.int 0), (.bool (decide (0 < (len (sl F1 1) : Int)))), (sl F1 7), (sl F1 5), (sl F1 4), (sl F0 2), (sl F1 6)]) (
 .row [])) (
 .row []))) (
 .row [])) (
 .row []))) := by
  subst h0; subst h1; exact gw rfl rfl (cL rfl (cL rfl (cQ (cQ (cg rfl (cQ (cQ rfl rfl) rfl) (cQ (cQ rfl rfl) rfl)) rfl) rfl)))
theorem aM (v0 : D) (v1 : Bool) (v2 v3 : D) (v4 : Bool) (v5 : D) (v6 : Bool) (v7 : D) (v8 : Bool) (v9 : D) (v10 : Bool) (v11 v12 : Int) (v13 v14 v15 : D) (v16 v17 : Bool) (v18 : D) (v19 : Bool) (v20 : Int) (v21 v22 v23 : D) (v24 v25 : Bool) (v26 v27 : D) (v28 : Int) (v29 v30 v31 : D) (v32 v33 v34 : Int) : JN v0 (.bool v1) v2 v3 (.bool v4) v5 (.bool v6) v7 (.bool v8) v9 (.bool v10) (.int v11) (.int v12) v13 v14 v15 (.bool v16) (.bool v17) v18 (.bool v19) (.int v20) v21 v22 v23 (.bool v24) (.bool v25) v26 v27 (.int v28) v29 v30 v31 (.int v32) (.int v33) (.int v34) =
 J7 (.int 0) v2 v3 (.bool v4) v5 (.bool v6) v7 (.bool v8) v9 (.bool v10) (.int v11) (.bool v17) v18 (.bool v19) v0 (.bool v1) (.int v12) v14 v15 (.bool v16) v13 (.int v20) v22 v23 (.bool v24) v21 v26 v27 (.int v28) v29 v30 v31 (.int v32) (.int v33) (.int v34) (.bool v25) := gw rfl rfl rfl
theorem QG (v0 : Int) (v1 v2 : D) (v3 : Bool) (v4 : D) (v5 : Bool) (v6 : D) (v7 : Bool) (v8 : D) (v9 : Bool) (v10 : Int) (v11 : Bool) (v12 : D) (v13 : Bool) (v14 : D) (v15 : Bool) (v16 : Int) (v17 v18 : D) (v19 : Bool) (v20 : D) (v21 : Int) (v22 v23 : D) (v24 : Bool) (v25 v26 v27 : D) (v28 : Int) (v29 v30 v31 : D) (v32 v33 v34 : Int) (v35 : Bool) : J7 (.int v0) v1 v2 (.bool v3) v4 (.bool v5) v6 (.bool v7) v8 (.bool v9) (.int v10) (.bool v11) v12 (.bool v13) v14 (.bool v15) (.int v16) v17 v18 (.bool v19) v20 (.int v21) v22 v23 (.bool v24) v25 v26 v27 (.int v28) v29 v30 v31 (.int v32) (.int v33) (.int v34) (.bool v35) =
  cond (v0 < 3) (
 cond (v0 = 0) (
 cond (D.strEq v26 v8) (
 J7 (.int (IntKind.wrap .i64 (v0 + 1))) v1 v2 (.bool v3) v4 (.bool v5) v6 (.bool v7) v8 (.bool v9) (.int v10) (.bool v11) v12 (.bool v13) v14 (.bool v15) (.int v16) v17 v18 (.bool v19) v20 (.int v21) v22 v23 (.bool v24) v25 v26 v27 (.int v28) v29 v30 v31 (.int v32) (.int v33) (.int v34) (.bool v35)) (
 .row [.int 1, (.bool false)])) (
 cond (v0 = 1) (
 cond ((sl (Fp v14 (.bool v15) v26 v27 (.int v28) v29 v30 v31 (.int v32) (.int v33) (.int v34)) 0).toInt = 1) (
 cond ((sl (Fp v14 (.bool v15) v26 v27 (.int v28) v29 v30 v31 (.int v32) (.int v33) (.int v34)) 1).toBool) (
 J7 (.int (IntKind.wrap .i64 (v0 + 1))) v1 v2 (.bool v3) v4 (.bool v5) v6 (.bool v7) v8 (.bool v9) (.int v10) (.bool v11) v12 (.bool v13) v14 (.bool v15) (.int v16) v17 v18 (.bool v19) v20 (.int v21) v22 v23 (.bool v24) v25 v26 v27 (.int v28) v29 v30 v31 (.int v32) (.int v33) (.int v34) (.bool v35)) (
 .row [.int 1, (.bool false)])) (
 .row [])) (
 cond (v0 = 2) (
 cond (v28 = 3) (
 cond (v35) (
 J7 (.int (IntKind.wrap .i64 (v0 + 1))) v1 v2 (.bool v3) v4 (.bool v5) v6 (.bool v7) v8 (.bool v9) (.int v10) (.bool v11) v12 (.bool v13) v14 (.bool v15) (.int v16) v17 v18 (.bool v19) v20 (.int v21) v22 v23 (.bool v24) v25 v26 v27 (.int v28) v29 v30 v31 (.int v32) (.int v33) (.int v34) (.bool v35)) (
 .row [.int 1, (.bool false)])) (
 J7 (.int (IntKind.wrap .i64 (v0 + 1))) v1 v2 (.bool v3) v4 (.bool v5) v6 (.bool v7) v8 (.bool v9) (.int v10) (.bool v11) v12 (.bool v13) v14 (.bool v15) (.int v16) v17 v18 (.bool v19) v20 (.int v21) v22 v23 (.bool v24) v25 v26 v27 (.int v28) v29 v30 v31 (.int v32) (.int v33) (.int v34) (.bool v35))) (
 .row [])))) (
 .row [.int 1, (.bool true)]) := gw rfl rfl (cL (cQ rfl (cQ (cQ rfl rfl) (cQ (cQ rfl rfl) rfl))) rfl)
theorem Wk (v0 : D) (v1 : Bool) (v2 v3 : D) (v4 : Int) (v5 v6 v7 : D) (v8 v9 v10 : Int) : EE v0 (.bool v1) v2 v3 (.int v4) v5 v6 v7 (.int v8) (.int v9) (.int v10) =
  cond ((sl (Fp v0 (.bool v1) v2 v3 (.int v4) v5 v6 v7 (.int v8) (.int v9) (.int v10)) 0).toInt = 1) (
 cond ((sl (Fp v0 (.bool v1) v2 v3 (.int v4) v5 v6 v7 (.int v8) (.int v9) (.int v10)) 2).toInt = 0) (
 cond ((sl (Fp v0 (.bool v1) v2 v3 (.int v4) v5 v6 v7 (.int v8) (.int v9) (.int v10)) 1).toBool) (
 cond (eqC v7 0 0) (
 .row [.int 1, (.int 0), v0]) (
 cond ((sl (Dk v0 (.bool v1) v7) 0).toInt = 1) (
 cond ((sl (Dk v0 (.bool v1) v7) 1).toInt < 0) (
 .row []) (
 cond ((sl (Dk v0 (.bool v1) v7) 1).toInt < len v0) (
 .row [.int 1, (.int 0), (upd v0 (sl (Dk v0 (.bool v1) v7) 1).toInt 2 (.int (IntKind.wrap .i64 ((cl v0 (sl (Dk v0 (.bool v1) v7) 1).toInt 2).toInt + v10))))]) (
 .row []))) (
 .row []))) (
 .row [.int 1, (.int 8), v0])) (
 .row [.int 1, (sl (Fp v0 (.bool v1) v2 v3 (.int v4) v5 v6 v7 (.int v8) (.int v9) (.int v10)) 2), v0])) (
 .row []) := gw rfl rfl (cQ (cQ (cg rfl (cg rfl rfl (cQ rfl rfl)) rfl) rfl) rfl)
theorem Za (v0 : D) (v1 : Bool) (v2 v3 : D) (v4 : Bool) (v5 : D) (v6 : Bool) (v7 : D) (v8 : Bool) (v9 : D) (v10 : Bool) (v11 v12 : Int) (v13 v14 v15 : D) (v16 v17 : Bool) (v18 : D) (v19 : Bool) (v20 : Int) (v21 v22 v23 : D) (v24 v25 : Bool) (v26 v27 : Int) : Mc v0 (.bool v1) v2 v3 (.bool v4) v5 (.bool v6) v7 (.bool v8) v9 (.bool v10) (.int v11) (.int v12) v13 v14 v15 (.bool v16) (.bool v17) v18 (.bool v19) (.int v20) v21 v22 v23 (.bool v24) (.bool v25) (.int v26) (.int v27) =
  cond ((len v18 : Int) < 100000) (
 cond (v27 < 0) (
 .row []) (
 cond (v27 < len v7) (
 cond ((sl (EE v0 (.bool v1) (cl v7 v27 0) (cl v7 v27 1) (cl v7 v27 2) (cl v7 v27 3) (cl v7 v27 4) (cl v7 v27 5) (cl v7 v27 6) (cl v7 v27 7) (cl v7 v27 8)) 0).toInt = 1) (
 cond ((len (sl (EE v0 (.bool v1) (cl v7 v27 0) (cl v7 v27 1) (cl v7 v27 2) (cl v7 v27 3) (cl v7 v27 4) (cl v7 v27 5) (cl v7 v27 6) (cl v7 v27 7) (cl v7 v27 8)) 2) : Int) = (len v0 : Int)) (
 cond ((sl (CY (sl (EE v0 (.bool v1) (cl v7 v27 0) (cl v7 v27 1) (cl v7 v27 2) (cl v7 v27 3) (cl v7 v27 4) (cl v7 v27 5) (cl v7 v27 6) (cl v7 v27 7) (cl v7 v27 8)) 2) (.bool v1) v2 v3 (.bool v4) v5 (.bool v6) v7 (.bool v8) v9 (.bool v10) (.int v11) (.int v20) v21 v22 v23 (.bool v24) (.bool v25) v18 (.bool v19) (cl v7 v27 1)) 0).toInt = 1) (
 .row [.int 1, (sl (CY (sl (EE v0 (.bool v1) (cl v7 v27 0) (cl v7 v27 1) (cl v7 v27 2) (cl v7 v27 3) (cl v7 v27 4) (cl v7 v27 5) (cl v7 v27 6) (cl v7 v27 7) (cl v7 v27 8)) 2) (.bool v1) v2 v3 (.bool v4) v5 (.bool v6) v7 (.bool v8) v9 (.bool v10) (.int v11) (.int v20) v21 v22 v23 (.bool v24) (.bool v25) v18 (.bool v19) (cl v7 v27 1)) 1), (sl (CY (sl (EE v0 (.bool v1) (cl v7 v27 0) (cl v7 v27 1) (cl v7 v27 2) (cl v7 v27 3) (cl v7 v27 4) (cl v7 v27 5) (cl v7 v27 6) (cl v7 v27 7) (cl v7 v27 8)) 2) (.bool v1) v2 v3 (.bool v4) v5 (.bool v6) v7 (.bool v8) v9 (.bool v10) (.int v11) (.int v20) v21 v22 v23 (.bool v24) (.bool v25) v18 (.bool v19) (cl v7 v27 1)) 2), (sl (CY (sl (EE v0 (.bool v1) (cl v7 v27 0) (cl v7 v27 1) (cl v7 v27 2) (cl v7 v27 3) (cl v7 v27 4) (cl v7 v27 5) (cl v7 v27 6) (cl v7 v27 7) (cl v7 v27 8)) 2) (.bool v1) v2 v3 (.bool v4) v5 (.bool v6) v7 (.bool v8) v9 (.bool v10) (.int v11) (.int v20) v21 v22 v23 (.bool v24) (.bool v25) v18 (.bool v19) (cl v7 v27 1)) 3), (ad v18 (.row [(.int v27), (.int v26)])), (.bool false), (sl (EE v0 (.bool v1) (cl v7 v27 0) (cl v7 v27 1) (cl v7 v27 2) (cl v7 v27 3) (cl v7 v27 4) (cl v7 v27 5) (cl v7 v27 6) (cl v7 v27 7) (cl v7 v27 8)) 2), (.bool v1), (.int v12), v14, v15, (.bool v16), v13, (.int v20), (sl (CY (sl (EE v0 (.bool v1) (cl v7 v27 0) (cl v7 v27 1) (cl v7 v27 2) (cl v7 v27 3) (cl v7 v27 4) (cl v7 v27 5) (cl v7 v27 6) (cl v7 v27 7) (cl v7 v27 8)) 2) (.bool v1) v2 v3 (.bool v4) v5 (.bool v6) v7 (.bool v8) v9 (.bool v10) (.int v11) (.int v20) v21 v22 v23 (.bool v24) (.bool v25) v18 (.bool v19) (cl v7 v27 1)) 4), (sl (CY (sl (EE v0 (.bool v1) (cl v7 v27 0) (cl v7 v27 1) (cl v7 v27 2) (cl v7 v27 3) (cl v7 v27 4) (cl v7 v27 5) (cl v7 v27 6) (cl v7 v27 7) (cl v7 v27 8)) 2) (.bool v1) v2 v3 (.bool v4) v5 (.bool v6) v7 (.bool v8) v9 (.bool v10) (.int v11) (.int v20) v21 v22 v23 (.bool v24) (.bool v25) v18 (.bool v19) (cl v7 v27 1)) 5), (sl (CY (sl (EE v0 (.bool v1) (cl v7 v27 0) (cl v7 v27 1) (cl v7 v27 2) (cl v7 v27 3) (cl v7 v27 4) (cl v7 v27 5) (cl v7 v27 6) (cl v7 v27 7) (cl v7 v27 8)) 2) (.bool v1) v2 v3 (.bool v4) v5 (.bool v6) v7 (.bool v8) v9 (.bool v10) (.int v11) (.int v20) v21 v22 v23 (.bool v24) (.bool v25) v18 (.bool v19) (cl v7 v27 1)) 6), (sl (CY (sl (EE v0 (.bool v1) (cl v7 v27 0) (cl v7 v27 1) (cl v7 v27 2) (cl v7 v27 3) (cl v7 v27 4) (cl v7 v27 5) (cl v7 v27 6) (cl v7 v27 7) (cl v7 v27 8)) 2) (.bool v1) v2 v3 (.bool v4) v5 (.bool v6) v7 (.bool v8) v9 (.bool v10) (.int v11) (.int v20) v21 v22 v23 (.bool v24) (.bool v25) v18 (.bool v19) (cl v7 v27 1)) 7)]) (
 .row [])) (
 .row [])) (
 .row [])) (
 .row []))) (
 .row []) := gw rfl rfl (cL (cL rfl (cL (cQ (cQ (cQ rfl rfl) rfl) rfl) rfl)) rfl)
theorem I7 (v0 : D) (v1 : Bool) (v2 v3 : D) (v4 : Bool) (v5 : D) (v6 : Bool) (v7 : D) (v8 : Bool) (v9 : D) (v10 : Bool) (v11 v12 : Int) (v13 v14 v15 : D) (v16 v17 : Bool) (v18 : D) (v19 : Bool) (v20 v21 : Int) {F0 F1 F2 F3 F4 F5 : D} (h0 : Md (.int v12) v13 v14 v15 (.bool v16) = F0) (h1 : KY (sl F0 1) (sl F0 5) (sl F0 2) (sl F0 3) (sl F0 4) (.int v20) = F1) (h2 : Mc v0 (.bool v1) v2 v3 (.bool v4) v5 (.bool v6) v7 (.bool v8) v9 (.bool v10) (.int v11) (.int v12) v13 v14 v15 (.bool v16) (.bool false) v18 (.bool v19) (sl F1 4) (sl F1 7) (sl F0 2) (sl F1 5) (sl F1 6) (.bool (decide (0 < (len (sl F1 1) : Int)))) (.int v20) (.int v21) = F2) (h3 : Mc v0 (.bool v1) v2 v3 (.bool v4) v5 (.bool v6) v7 (.bool v8) v9 (.bool v10) (.int v11) (.int v12) v13 v14 v15 (.bool v16) (.bool true) v18 (.bool v19) (sl F1 4) (sl F1 7) (sl F0 2) (sl F1 5) (sl F1 6) (.bool true) (.int v20) (.int v21) = F3) (h4 : JN v0 (.bool v1) v2 v3 (.bool v4) v5 (.bool v6) v7 (.bool v8) v9 (.bool v10) (.int v11) (.int v12) v13 v14 v15 (.bool v16) (.bool v17) v18 (.bool v19) (sl F1 4) (sl F1 7) (sl F0 2) (sl F1 5) (sl F1 6) (.bool (decide (0 < (len (sl F1 1) : Int)))) (cl v7 v21 0) (cl v7 v21 1) (cl v7 v21 2) (cl v7 v21 3) (cl v7 v21 4) (cl v7 v21 5) (cl v7 v21 6) (cl v7 v21 7) (cl v7 v21 8) = F4) (h5 : JN v0 (.bool v1) v2 v3 (.bool v4) v5 (.bool v6) v7 (.bool v8) v9 (.bool v10) (.int v11) (.int v12) v13 v14 v15 (.bool v16) (.bool v17) v18 (.bool v19) (sl F1 4) (sl F1 7) (sl F0 2) (sl F1 5) (sl F1 6) (.bool true) (cl v7 v21 0) (cl v7 v21 1) (cl v7 v21 2) (cl v7 v21 3) (cl v7 v21 4) (cl v7 v21 5) (cl v7 v21 6) (cl v7 v21 7) (cl v7 v21 8) = F5) : Bc v0 (.bool v1) v2 v3 (.bool v4) v5 (.bool v6) v7 (.bool v8) v9 (.bool v10) (.int v11) (.int v12) v13 v14 v15 (.bool v16) (.bool v17) v18 (.bool v19) (.int v20) (.int v21) =
  cond (v21 < 0) (
 .row [.int 1, (.int 2), v9, (.bool v10), (.int v11), (.bool v17), v18, (.bool v19), v0, (.bool v1), v13, v15, (.int v12), v14, (.bool v16)]) (
 cond (v21 < len v7) (
 cond (v20 < v12) (
 .row [.int 1, (.int 3), v9, (.bool v10), (.int v11), (.bool v17), v18, (.bool v19), v0, (.bool v1), v13, v15, (.int v12), v14, (.bool v16)]) (
 cond (1099511627776 < v20) (
 .row [.int 1, (.int 3), v9, (.bool v10), (.int v11), (.bool v17), v18, (.bool v19), v0, (.bool v1), v13, v15, (.int v12), v14, (.bool v16)]) (
 cond ((sl F0 0).toInt = 1) (
 cond ((sl F1 0).toInt = 1) (
 cond (v17) (
 cond ((sl F5 0).toInt = 1) (
 cond ((sl F5 1).toBool) (
 cond ((sl F3 0).toInt = 1) (
 .row [.int 1, (.int 0), (sl F3 1), (sl F3 2), (sl F3 3), (.bool false), (sl F3 4), (sl F3 5), (sl F3 6), (sl F3 7), (sl F3 17), (sl F3 15), (sl F3 13), (sl F3 14), (sl F3 16)]) (
 .row [])) (
 .row [.int 1, (.int 8), v9, (.bool v10), (.int v11), (.bool true), v18, (.bool v19), v0, (.bool v1), v13, v15, (.int v12), v14, (.bool v16)])) (
 .row [])) (
 cond ((sl F4 0).toInt = 1) (
 cond ((sl F4 1).toBool) (
 cond ((sl F2 0).toInt = 1) (
 .row [.int 1, (.int 0), (sl F2 1), (sl F2 2), (sl F2 3), (.bool false), (sl F2 4), (sl F2 5), (sl F2 6), (sl F2 7), (sl F2 17), (sl F2 15), (sl F2 13), (sl F2 14), (sl F2 16)]) (
 .row [])) (
 .row [.int 1, (.int 8), v9, (.bool v10), (.int v11), (.bool false), v18, (.bool v19), v0, (.bool v1), v13, v15, (.int v12), v14, (.bool v16)])) (
 .row []))) (
 .row [])) (
 .row [])))) (
 .row [.int 1, (.int 2), v9, (.bool v10), (.int v11), (.bool v17), v18, (.bool v19), v0, (.bool v1), v13, v15, (.int v12), v14, (.bool v16)])) := by
  subst h0; subst h1; subst h2; subst h3; subst h4; subst h5; exact gw rfl rfl (cL rfl (cL (cL rfl (cL rfl (cQ (cQ (cg rfl (cQ (cg rfl (cQ rfl rfl) rfl) rfl) (cQ (cg rfl (cQ rfl rfl) rfl) rfl)) rfl) rfl))) rfl))
theorem Qj (v0 v1 : D) (v2 : Int) (v3 : D) (v4 : Bool) (v5 v6 : D) (v7 : Bool) (v8 : D) (v9 : Bool) (v10 : D) (v11 : Bool) (v12 : D) (v13 : Bool) (v14 v15 : Int) (v16 v17 v18 : D) (v19 v20 : Bool) (v21 : D) (v22 : Bool) (v23 : Int) (v24 v25 v26 : D) (v27 v28 : Bool) (v29 : D) (v30 : Bool) (v31 : D) : Ke v0 v1 (.int v2) v3 (.bool v4) v5 v6 (.bool v7) v8 (.bool v9) v10 (.bool v11) v12 (.bool v13) (.int v14) (.int v15) v16 v17 v18 (.bool v19) (.bool v20) v21 (.bool v22) (.int v23) v24 v25 v26 (.bool v27) (.bool v28) v29 (.bool v30) v31 =
 Hs v29 (.bool v30) (.int 0) v0 v1 (.int v2) (.bool v28) v5 v6 (.bool v7) v8 (.bool v9) v10 (.bool v11) v12 (.bool v13) (.int v14) (.bool v20) v21 (.bool v22) v3 (.bool v4) (.int v15) v17 v18 (.bool v19) v16 (.int v23) v25 v26 (.bool v27) v24 v31 := gw rfl rfl rfl
theorem Wn (v0 : D) (v1 : Bool) (v2 : Int) (v3 v4 : D) (v5 : Int) (v6 : Bool) (v7 v8 : D) (v9 : Bool) (v10 : D) (v11 : Bool) (v12 : D) (v13 : Bool) (v14 : D) (v15 : Bool) (v16 : Int) (v17 : Bool) (v18 : D) (v19 : Bool) (v20 : D) (v21 : Bool) (v22 : Int) (v23 v24 : D) (v25 : Bool) (v26 : D) (v27 : Int) (v28 v29 : D) (v30 : Bool) (v31 v32 : D) : Hs v0 (.bool v1) (.int v2) v3 v4 (.int v5) (.bool v6) v7 v8 (.bool v9) v10 (.bool v11) v12 (.bool v13) v14 (.bool v15) (.int v16) (.bool v17) v18 (.bool v19) v20 (.bool v21) (.int v22) v23 v24 (.bool v25) v26 (.int v27) v28 v29 (.bool v30) v31 v32 =
  cond (v2 < len v0) (
 cond (v2 < 0) (
 .row []) (
 cond (D.strEq (cl v0 v2 0) v32) (
 cond ((cl v0 v2 2).toInt = 2) (
 cond (D.strEq (cl v0 v2 3) v3) (
 cond (D.strEq (cl v0 v2 4) v4) (
 cond ((sl (JN v20 (.bool v21) v7 v8 (.bool v9) v10 (.bool v11) v12 (.bool v13) v14 (.bool v15) (.int v16) (.int v22) v26 v23 v24 (.bool v25) (.bool v17) v18 (.bool v19) (.int v27) v31 v28 v29 (.bool v30) (.bool v6) (cl v0 v2 0) (cl v0 v2 1) (cl v0 v2 2) (cl v0 v2 3) (cl v0 v2 4) (cl v0 v2 5) (cl v0 v2 6) (cl v0 v2 7) (cl v0 v2 8)) 0).toInt = 1) (
 cond ((sl (JN v20 (.bool v21) v7 v8 (.bool v9) v10 (.bool v11) v12 (.bool v13) v14 (.bool v15) (.int v16) (.int v22) v26 v23 v24 (.bool v25) (.bool v17) v18 (.bool v19) (.int v27) v31 v28 v29 (.bool v30) (.bool v6) (cl v0 v2 0) (cl v0 v2 1) (cl v0 v2 2) (cl v0 v2 3) (cl v0 v2 4) (cl v0 v2 5) (cl v0 v2 6) (cl v0 v2 7) (cl v0 v2 8)) 1).toBool) (
 .row [.int 1, (.int v2)]) (
 Hs v0 (.bool v1) (.int (IntKind.wrap .i64 (v2 + 1))) v3 v4 (.int v5) (.bool v6) v7 v8 (.bool v9) v10 (.bool v11) v12 (.bool v13) v14 (.bool v15) (.int v16) (.bool v17) v18 (.bool v19) v20 (.bool v21) (.int v22) v23 v24 (.bool v25) v26 (.int v27) v28 v29 (.bool v30) v31 v32)) (
 .row [])) (
 Hs v0 (.bool v1) (.int (IntKind.wrap .i64 (v2 + 1))) v3 v4 (.int v5) (.bool v6) v7 v8 (.bool v9) v10 (.bool v11) v12 (.bool v13) v14 (.bool v15) (.int v16) (.bool v17) v18 (.bool v19) v20 (.bool v21) (.int v22) v23 v24 (.bool v25) v26 (.int v27) v28 v29 (.bool v30) v31 v32)) (
 Hs v0 (.bool v1) (.int (IntKind.wrap .i64 (v2 + 1))) v3 v4 (.int v5) (.bool v6) v7 v8 (.bool v9) v10 (.bool v11) v12 (.bool v13) v14 (.bool v15) (.int v16) (.bool v17) v18 (.bool v19) v20 (.bool v21) (.int v22) v23 v24 (.bool v25) v26 (.int v27) v28 v29 (.bool v30) v31 v32)) (
 Hs v0 (.bool v1) (.int (IntKind.wrap .i64 (v2 + 1))) v3 v4 (.int v5) (.bool v6) v7 v8 (.bool v9) v10 (.bool v11) v12 (.bool v13) v14 (.bool v15) (.int v16) (.bool v17) v18 (.bool v19) v20 (.bool v21) (.int v22) v23 v24 (.bool v25) v26 (.int v27) v28 v29 (.bool v30) v31 v32)) (
 Hs v0 (.bool v1) (.int (IntKind.wrap .i64 (v2 + 1))) v3 v4 (.int v5) (.bool v6) v7 v8 (.bool v9) v10 (.bool v11) v12 (.bool v13) v14 (.bool v15) (.int v16) (.bool v17) v18 (.bool v19) v20 (.bool v21) (.int v22) v23 v24 (.bool v25) v26 (.int v27) v28 v29 (.bool v30) v31 v32))) (
 .row [.int 2]) := gw rfl rfl (cL (cL rfl (cg rfl (cQ (cg rfl (cg rfl (cQ rfl rfl) rfl) rfl) rfl) rfl)) rfl)
theorem L9 (v0 : D) (v1 : Bool) (v2 v3 : D) (v4 : Bool) (v5 : D) (v6 : Bool) (v7 : D) (v8 : Bool) (v9 : D) (v10 : Bool) (v11 v12 : Int) (v13 v14 v15 : D) (v16 v17 : Bool) (v18 : D) (v19 : Bool) (v20 : Int) (v21 v22 : D) {F0 F1 F2 F3 F4 F5 F6 : D} (h0 : Md (.int v12) v13 v14 v15 (.bool v16) = F0) (h1 : KY (sl F0 1) (sl F0 5) (sl F0 2) (sl F0 3) (sl F0 4) (.int v20) = F1) (h2 : Dj v7 (.bool v8) = F2) (h3 : Ke v21 v22 (.int (-1)) v0 (.bool v1) v2 v3 (.bool v4) v5 (.bool v6) v7 (.bool v8) v9 (.bool v10) (.int v11) (.int v12) v13 v14 v15 (.bool v16) (.bool v17) v18 (.bool v19) (sl F1 4) (sl F1 7) (sl F0 2) (sl F1 5) (sl F1 6) (.bool (decide (0 < (len (sl F1 1) : Int)))) (sl F2 1) (sl F2 2) v9 = F3) (h4 : Ke v21 v22 (.int (-1)) v0 (.bool v1) v2 v3 (.bool v4) v5 (.bool v6) v7 (.bool v8) v9 (.bool v10) (.int v11) (.int v12) v13 v14 v15 (.bool v16) (.bool v17) v18 (.bool v19) (sl F1 4) (sl F1 7) (sl F0 2) (sl F1 5) (sl F1 6) (.bool true) (sl F2 1) (sl F2 2) v9 = F4) (h5 : Mc v0 (.bool v1) v2 v3 (.bool v4) v5 (.bool v6) v7 (.bool v8) v9 (.bool v10) (.int v11) (.int v12) v13 v14 v15 (.bool v16) (.bool false) v18 (.bool v19) (sl F1 4) (sl F1 7) (sl F0 2) (sl F1 5) (sl F1 6) (.bool (decide (0 < (len (sl F1 1) : Int)))) (.int v20) (sl F3 1) = F5) (h6 : Mc v0 (.bool v1) v2 v3 (.bool v4) v5 (.bool v6) v7 (.bool v8) v9 (.bool v10) (.int v11) (.int v12) v13 v14 v15 (.bool v16) (.bool true) v18 (.bool v19) (sl F1 4) (sl F1 7) (sl F0 2) (sl F1 5) (sl F1 6) (.bool true) (.int v20) (sl F4 1) = F6) : N4 v0 (.bool v1) v2 v3 (.bool v4) v5 (.bool v6) v7 (.bool v8) v9 (.bool v10) (.int v11) (.int v12) v13 v14 v15 (.bool v16) (.bool v17) v18 (.bool v19) (.int v20) v21 v22 =
  cond (v20 < v12) (
 .row [.int 1, (.int 0), (.int 3), v9, (.bool v10), (.int v11), (.bool v17), v18, (.bool v19), v0, (.bool v1), v13, v15, (.int v12), v14, (.bool v16)]) (
 cond (1099511627776 < v20) (
 .row [.int 1, (.int 0), (.int 3), v9, (.bool v10), (.int v11), (.bool v17), v18, (.bool v19), v0, (.bool v1), v13, v15, (.int v12), v14, (.bool v16)]) (
 cond ((sl F0 0).toInt = 1) (
 cond ((sl F1 0).toInt = 1) (
 cond (v17) (
 cond ((sl F2 0).toInt = 1) (
 cond ((sl F4 0).toInt = 1) (
 cond ((sl F4 1).toInt < 0) (
 .row [.int 1, (.int 0), (.int 9), v9, (.bool v10), (.int v11), (.bool true), v18, (.bool v19), v0, (.bool v1), v13, v15, (.int v12), v14, (.bool v16)]) (
 cond ((sl F6 0).toInt = 1) (
 .row [.int 1, (sl F4 1), (.int 0), (sl F6 1), (sl F6 2), (sl F6 3), (.bool false), (sl F6 4), (sl F6 5), (sl F6 6), (sl F6 7), (sl F6 17), (sl F6 15), (sl F6 13), (sl F6 14), (sl F6 16)]) (
 .row []))) (
 cond ((sl F4 0).toInt = 2) (
 .row [.int 1, (.int 0), (.int 9), v9, (.bool v10), (.int v11), (.bool true), v18, (.bool v19), v0, (.bool v1), v13, v15, (.int v12), v14, (.bool v16)]) (
 .row []))) (
 .row [])) (
 cond ((sl F2 0).toInt = 1) (
 cond ((sl F3 0).toInt = 1) (
 cond ((sl F3 1).toInt < 0) (
 .row [.int 1, (.int 0), (.int 9), v9, (.bool v10), (.int v11), (.bool false), v18, (.bool v19), v0, (.bool v1), v13, v15, (.int v12), v14, (.bool v16)]) (
 cond ((sl F5 0).toInt = 1) (
 .row [.int 1, (sl F3 1), (.int 0), (sl F5 1), (sl F5 2), (sl F5 3), (.bool false), (sl F5 4), (sl F5 5), (sl F5 6), (sl F5 7), (sl F5 17), (sl F5 15), (sl F5 13), (sl F5 14), (sl F5 16)]) (
 .row []))) (
 cond ((sl F3 0).toInt = 2) (
 .row [.int 1, (.int 0), (.int 9), v9, (.bool v10), (.int v11), (.bool false), v18, (.bool v19), v0, (.bool v1), v13, v15, (.int v12), v14, (.bool v16)]) (
 .row []))) (
 .row []))) (
 .row [])) (
 .row []))) := by
  subst h0; subst h1; subst h2; subst h3; subst h4; subst h5; subst h6; exact gw rfl rfl (cL rfl (cL rfl (cQ (cQ (cg rfl (cQ (cQ (cL rfl (cQ rfl rfl)) (cQ rfl rfl)) rfl) (cQ (cQ (cL rfl (cQ rfl rfl)) (cQ rfl rfl)) rfl)) rfl) rfl)))
theorem ZR (v0 : D) (v1 : Bool) (v2 v3 : D) (v4 : Bool) (v5 : D) (v6 : Bool) (v7 : D) (v8 : Bool) (v9 : D) (v10 : Bool) (v11 v12 : Int) (v13 v14 v15 : D) (v16 v17 : Bool) (v18 : D) (v19 v20 : Bool) (v21 v22 : D) (v23 : Int) (v24 v25 v26 : D) (v27 v28 v29 : Int) : Qo v0 (.bool v1) v2 v3 (.bool v4) v5 (.bool v6) v7 (.bool v8) v9 (.bool v10) (.int v11) (.int v12) v13 v14 v15 (.bool v16) (.bool v17) v18 (.bool v19) (.bool v20) v21 v22 (.int v23) v24 v25 v26 (.int v27) (.int v28) (.int v29) =
 KJ (.int 0) v2 v3 (.bool v4) v5 (.bool v6) v7 (.bool v8) v9 (.bool v10) (.int v11) (.bool v17) v18 (.bool v19) v0 (.bool v1) (.int v12) v14 v15 (.bool v16) v13 v21 v22 (.int v23) v24 v25 v26 (.int v27) (.int v28) (.int v29) (.bool v20) := gw rfl rfl rfl
theorem Qx (v0 : Int) (v1 v2 : D) (v3 : Bool) (v4 : D) (v5 : Bool) (v6 : D) (v7 : Bool) (v8 : D) (v9 : Bool) (v10 : Int) (v11 : Bool) (v12 : D) (v13 : Bool) (v14 : D) (v15 : Bool) (v16 : Int) (v17 v18 : D) (v19 : Bool) (v20 v21 v22 : D) (v23 : Int) (v24 v25 v26 : D) (v27 v28 v29 : Int) (v30 : Bool) : KJ (.int v0) v1 v2 (.bool v3) v4 (.bool v5) v6 (.bool v7) v8 (.bool v9) (.int v10) (.bool v11) v12 (.bool v13) v14 (.bool v15) (.int v16) v17 v18 (.bool v19) v20 v21 v22 (.int v23) v24 v25 v26 (.int v27) (.int v28) (.int v29) (.bool v30) =
  cond (v0 < 3) (
 cond (v0 = 0) (
 cond (D.strEq v21 v8) (
 KJ (.int (IntKind.wrap .i64 (v0 + 1))) v1 v2 (.bool v3) v4 (.bool v5) v6 (.bool v7) v8 (.bool v9) (.int v10) (.bool v11) v12 (.bool v13) v14 (.bool v15) (.int v16) v17 v18 (.bool v19) v20 v21 v22 (.int v23) v24 v25 v26 (.int v27) (.int v28) (.int v29) (.bool v30)) (
 .row [.int 1, (.bool false)])) (
 cond (v0 = 1) (
 cond ((sl (Fp v14 (.bool v15) v21 v22 (.int v23) v24 v25 v26 (.int v27) (.int v28) (.int v29)) 0).toInt = 1) (
 cond ((sl (Fp v14 (.bool v15) v21 v22 (.int v23) v24 v25 v26 (.int v27) (.int v28) (.int v29)) 1).toBool) (
 KJ (.int (IntKind.wrap .i64 (v0 + 1))) v1 v2 (.bool v3) v4 (.bool v5) v6 (.bool v7) v8 (.bool v9) (.int v10) (.bool v11) v12 (.bool v13) v14 (.bool v15) (.int v16) v17 v18 (.bool v19) v20 v21 v22 (.int v23) v24 v25 v26 (.int v27) (.int v28) (.int v29) (.bool v30)) (
 .row [.int 1, (.bool false)])) (
 .row [])) (
 cond (v0 = 2) (
 cond (v23 = 3) (
 cond (v30) (
 KJ (.int (IntKind.wrap .i64 (v0 + 1))) v1 v2 (.bool v3) v4 (.bool v5) v6 (.bool v7) v8 (.bool v9) (.int v10) (.bool v11) v12 (.bool v13) v14 (.bool v15) (.int v16) v17 v18 (.bool v19) v20 v21 v22 (.int v23) v24 v25 v26 (.int v27) (.int v28) (.int v29) (.bool v30)) (
 .row [.int 1, (.bool false)])) (
 KJ (.int (IntKind.wrap .i64 (v0 + 1))) v1 v2 (.bool v3) v4 (.bool v5) v6 (.bool v7) v8 (.bool v9) (.int v10) (.bool v11) v12 (.bool v13) v14 (.bool v15) (.int v16) v17 v18 (.bool v19) v20 v21 v22 (.int v23) v24 v25 v26 (.int v27) (.int v28) (.int v29) (.bool v30))) (
 .row [])))) (
 .row [.int 1, (.bool true)]) := gw rfl rfl (cL (cQ rfl (cQ (cQ rfl rfl) (cQ (cQ rfl rfl) rfl))) rfl)
theorem aS (v0 : D) (v1 : Bool) (v2 : D) (v3 : Bool) (v4 v5 : D) (v6 : Bool) (v7 : D) (v8 v9 : Bool) (v10 : D) (v11 : Bool) (v12 v13 : Int) (v14 v15 v16 : D) (v17 v18 : Bool) (v19 : D) (v20 v21 : Bool) : Ri v0 (.bool v1) v2 (.bool v3) v4 v5 (.bool v6) v7 (.bool v8) (.bool v9) v10 (.bool v11) (.int v12) (.int v13) v14 v15 v16 (.bool v17) (.bool v18) v19 (.bool v20) (.bool v21) =
 Ma AN (.bool true) v0 (.bool v1) (.int 0) (.bool v21) v4 v5 (.bool v6) v7 (.bool v8) (.bool v9) v10 (.bool v11) (.int v12) (.bool v18) v19 (.bool v20) v2 (.bool v3) (.int v13) v15 v16 (.bool v17) v14 := gw rfl rfl rfl
theorem Ww (v0 : D) (v1 : Bool) (v2 : D) (v3 : Bool) (v4 : Int) (v5 : Bool) (v6 v7 : D) (v8 : Bool) (v9 : D) (v10 v11 : Bool) (v12 : D) (v13 : Bool) (v14 : Int) (v15 : Bool) (v16 : D) (v17 : Bool) (v18 : D) (v19 : Bool) (v20 : Int) (v21 v22 : D) (v23 : Bool) (v24 : D) : Ma v0 (.bool v1) v2 (.bool v3) (.int v4) (.bool v5) v6 v7 (.bool v8) v9 (.bool v10) (.bool v11) v12 (.bool v13) (.int v14) (.bool v15) v16 (.bool v17) v18 (.bool v19) (.int v20) v21 v22 (.bool v23) v24 =
  cond (v4 < len v2) (
 cond (v4 < 0) (
 .row []) (
 cond ((cl v2 v4 2).toInt = 3) (
 cond ((sl (Qo v18 (.bool v19) v6 v7 (.bool v8) v9 (.bool v10) v2 (.bool v11) v12 (.bool v13) (.int v14) (.int v20) v24 v21 v22 (.bool v23) (.bool v15) v16 (.bool v17) (.bool v5) (cl v2 v4 0) (cl v2 v4 1) (cl v2 v4 2) (cl v2 v4 3) (cl v2 v4 4) (cl v2 v4 5) (cl v2 v4 6) (cl v2 v4 7) (cl v2 v4 8)) 0).toInt = 1) (
 cond ((sl (Qo v18 (.bool v19) v6 v7 (.bool v8) v9 (.bool v10) v2 (.bool v11) v12 (.bool v13) (.int v14) (.int v20) v24 v21 v22 (.bool v23) (.bool v15) v16 (.bool v17) (.bool v5) (cl v2 v4 0) (cl v2 v4 1) (cl v2 v4 2) (cl v2 v4 3) (cl v2 v4 4) (cl v2 v4 5) (cl v2 v4 6) (cl v2 v4 7) (cl v2 v4 8)) 1).toBool) (
 cond ((len v0 : Int) < 1073741824) (
 Ma (ad v0 (.row [(cl v2 v4 0), (cl v2 v4 1), (cl v2 v4 2), (cl v2 v4 3), (cl v2 v4 4), (cl v2 v4 5), (cl v2 v4 6), (cl v2 v4 7), (cl v2 v4 8)])) (.bool false) v2 (.bool v3) (.int (IntKind.wrap .i64 (v4 + 1))) (.bool v5) v6 v7 (.bool v8) v9 (.bool v10) (.bool v11) v12 (.bool v13) (.int v14) (.bool v15) v16 (.bool v17) v18 (.bool v19) (.int v20) v21 v22 (.bool v23) v24) (
 .row [])) (
 Ma v0 (.bool v1) v2 (.bool v3) (.int (IntKind.wrap .i64 (v4 + 1))) (.bool v5) v6 v7 (.bool v8) v9 (.bool v10) (.bool v11) v12 (.bool v13) (.int v14) (.bool v15) v16 (.bool v17) v18 (.bool v19) (.int v20) v21 v22 (.bool v23) v24)) (
 .row [])) (
 Ma v0 (.bool v1) v2 (.bool v3) (.int (IntKind.wrap .i64 (v4 + 1))) (.bool v5) v6 v7 (.bool v8) v9 (.bool v10) (.bool v11) v12 (.bool v13) (.int v14) (.bool v15) v16 (.bool v17) v18 (.bool v19) (.int v20) v21 v22 (.bool v23) v24))) (
 .row [.int 1, v0, (.bool v1)]) := gw rfl rfl (cL (cL rfl (cQ (cQ (cg rfl (cL rfl rfl) rfl) rfl) rfl)) rfl)
theorem cq (v0 : D) (v1 : Bool) (v2 v3 : D) (v4 : Bool) (v5 : D) (v6 : Bool) (v7 : D) (v8 : Bool) (v9 : D) (v10 : Bool) (v11 v12 : Int) (v13 v14 v15 : D) (v16 v17 : Bool) (v18 : D) (v19 : Bool) : T6 v0 (.bool v1) v2 v3 (.bool v4) v5 (.bool v6) v7 (.bool v8) v9 (.bool v10) (.int v11) (.int v12) v13 v14 v15 (.bool v16) (.bool v17) v18 (.bool v19) =
  cond ((sl (GC (.int v12) v13 v14 v15 (.bool v16) (.int 0)) 0).toInt = 1) (
 cond ((sl (Ri v7 (.bool v8) v0 (.bool v1) v2 v3 (.bool v4) v5 (.bool v6) (.bool v8) v9 (.bool v10) (.int v11) (.int v12) v13 v14 v15 (.bool v16) (.bool v17) v18 (.bool v19) (.bool true)) 0).toInt = 1) (
 cond ((len (sl (Ri v7 (.bool v8) v0 (.bool v1) v2 v3 (.bool v4) v5 (.bool v6) (.bool v8) v9 (.bool v10) (.int v11) (.int v12) v13 v14 v15 (.bool v16) (.bool v17) v18 (.bool v19) (.bool true)) 1) : Int) = 0) (
 .row [.int 1, (.int 0), (.int 9)]) (
 cond (v17) (
 .row [.int 1, (.int v12), (.int 0)]) (
 cond ((sl (GC (.int v12) v13 v14 v15 (.bool v16) (.int 0)) 2).toInt = 0) (
 .row [.int 1, (.int (IntKind.wrap .i64 (v12 + (sl (GC (.int v12) v13 v14 v15 (.bool v16) (.int 0)) 1).toInt))), (.int 0)]) (
 .row [.int 1, (.int 0), (.int 9)])))) (
 .row [])) (
 .row []) := gw rfl rfl (cQ (cQ (cQ rfl (cg rfl rfl (cQ rfl rfl))) rfl) rfl)
theorem cE (v0 : D) (v1 : Bool) : GG v0 (.bool v1) =
  cond (v1) (
 .row [.int 1, AN, (.bool true)]) (
 cond ((len v0 : Int) < 1048576) (
 .row [.int 1, (ct AZ v0), (.bool false)]) (
 .row [])) := gw rfl rfl (cg rfl rfl (cL rfl rfl))
theorem bu (v0 : Bool) (v1 : D) (v2 : Bool) (v3 v4 : D) (v5 : Bool) (v6 : D) (v7 : Bool) (v8 : D) (v9 : Bool) (v10 : D) (v11 : Bool) (v12 v13 : Int) (v14 v15 v16 : D) (v17 v18 : Bool) (v19 : D) (v20 : Bool) (v21 : Int) (v22 : D) (v23 : Bool) (v24 : D) (v25 : Bool) : WA (.bool v0) v1 (.bool v2) v3 v4 (.bool v5) v6 (.bool v7) v8 (.bool v9) v10 (.bool v11) (.int v12) (.int v13) v14 v15 v16 (.bool v17) (.bool v18) v19 (.bool v20) (.int v21) v22 (.bool v23) v24 (.bool v25) =
 QO v24 (.bool v25) (.int 0) (.bool v0) v3 v4 (.bool v5) v6 (.bool v7) v8 (.bool v9) v10 (.bool v11) (.int v12) (.bool v18) v19 (.bool v20) v1 (.bool v2) (.int v21) v22 (.bool v23) v14 v16 (.int v13) v15 (.bool v17) := gw rfl rfl rfl
theorem WE (v0 : D) (v1 : Bool) (v2 : Int) (v3 : Bool) (v4 v5 : D) (v6 : Bool) (v7 : D) (v8 : Bool) (v9 : D) (v10 : Bool) (v11 : D) (v12 : Bool) (v13 : Int) (v14 : Bool) (v15 : D) (v16 : Bool) (v17 : D) (v18 : Bool) (v19 : Int) (v20 : D) (v21 : Bool) (v22 v23 : D) (v24 : Int) (v25 : D) (v26 : Bool) : QO v0 (.bool v1) (.int v2) (.bool v3) v4 v5 (.bool v6) v7 (.bool v8) v9 (.bool v10) v11 (.bool v12) (.int v13) (.bool v14) v15 (.bool v16) v17 (.bool v18) (.int v19) v20 (.bool v21) v22 v23 (.int v24) v25 (.bool v26) =
  cond (v2 < len v0) (
 cond (v2 < 0) (
 .row []) (
 cond ((cl v0 v2 1).toInt < v19) (
 .row [.int 1, v11, (.bool v12), (.int v13), (.bool v14), v15, (.bool v16), v17, (.bool v18), (.int v19), v20, (.bool v21), (.int v24), v25, v23, (.bool v26), v22]) (
 cond ((sl (Bc v17 (.bool v18) v4 v5 (.bool v6) v7 (.bool v8) v9 (.bool v10) v11 (.bool v12) (.int v13) (.int v24) v22 v25 v23 (.bool v26) (.bool v14) v15 (.bool v16) (cl v0 v2 1) (cl v0 v2 0)) 0).toInt = 1) (
 cond ((sl (Bc v17 (.bool v18) v4 v5 (.bool v6) v7 (.bool v8) v9 (.bool v10) v11 (.bool v12) (.int v13) (.int v24) v22 v25 v23 (.bool v26) (.bool v14) v15 (.bool v16) (cl v0 v2 1) (cl v0 v2 0)) 1).toInt = 0) (
 cond ((len v20 : Int) < 1073741824) (
 QO v0 (.bool v1) (.int (IntKind.wrap .i64 (v2 + 1))) (.bool v3) v4 v5 (.bool v6) v7 (.bool v8) v9 (.bool v10) (sl (Bc v17 (.bool v18) v4 v5 (.bool v6) v7 (.bool v8) v9 (.bool v10) v11 (.bool v12) (.int v13) (.int v24) v22 v25 v23 (.bool v26) (.bool v14) v15 (.bool v16) (cl v0 v2 1) (cl v0 v2 0)) 2) (sl (Bc v17 (.bool v18) v4 v5 (.bool v6) v7 (.bool v8) v9 (.bool v10) v11 (.bool v12) (.int v13) (.int v24) v22 v25 v23 (.bool v26) (.bool v14) v15 (.bool v16) (cl v0 v2 1) (cl v0 v2 0)) 3) (sl (Bc v17 (.bool v18) v4 v5 (.bool v6) v7 (.bool v8) v9 (.bool v10) v11 (.bool v12) (.int v13) (.int v24) v22 v25 v23 (.bool v26) (.bool v14) v15 (.bool v16) (cl v0 v2 1) (cl v0 v2 0)) 4) (sl (Bc v17 (.bool v18) v4 v5 (.bool v6) v7 (.bool v8) v9 (.bool v10) v11 (.bool v12) (.int v13) (.int v24) v22 v25 v23 (.bool v26) (.bool v14) v15 (.bool v16) (cl v0 v2 1) (cl v0 v2 0)) 5) (sl (Bc v17 (.bool v18) v4 v5 (.bool v6) v7 (.bool v8) v9 (.bool v10) v11 (.bool v12) (.int v13) (.int v24) v22 v25 v23 (.bool v26) (.bool v14) v15 (.bool v16) (cl v0 v2 1) (cl v0 v2 0)) 6) (sl (Bc v17 (.bool v18) v4 v5 (.bool v6) v7 (.bool v8) v9 (.bool v10) v11 (.bool v12) (.int v13) (.int v24) v22 v25 v23 (.bool v26) (.bool v14) v15 (.bool v16) (cl v0 v2 1) (cl v0 v2 0)) 7) (sl (Bc v17 (.bool v18) v4 v5 (.bool v6) v7 (.bool v8) v9 (.bool v10) v11 (.bool v12) (.int v13) (.int v24) v22 v25 v23 (.bool v26) (.bool v14) v15 (.bool v16) (cl v0 v2 1) (cl v0 v2 0)) 8) (sl (Bc v17 (.bool v18) v4 v5 (.bool v6) v7 (.bool v8) v9 (.bool v10) v11 (.bool v12) (.int v13) (.int v24) v22 v25 v23 (.bool v26) (.bool v14) v15 (.bool v16) (cl v0 v2 1) (cl v0 v2 0)) 9) (cl v0 v2 1) (ad v20 (.row [(cl v0 v2 0), (cl v0 v2 1)])) (.bool false) (sl (Bc v17 (.bool v18) v4 v5 (.bool v6) v7 (.bool v8) v9 (.bool v10) v11 (.bool v12) (.int v13) (.int v24) v22 v25 v23 (.bool v26) (.bool v14) v15 (.bool v16) (cl v0 v2 1) (cl v0 v2 0)) 10) (sl (Bc v17 (.bool v18) v4 v5 (.bool v6) v7 (.bool v8) v9 (.bool v10) v11 (.bool v12) (.int v13) (.int v24) v22 v25 v23 (.bool v26) (.bool v14) v15 (.bool v16) (cl v0 v2 1) (cl v0 v2 0)) 11) (sl (Bc v17 (.bool v18) v4 v5 (.bool v6) v7 (.bool v8) v9 (.bool v10) v11 (.bool v12) (.int v13) (.int v24) v22 v25 v23 (.bool v26) (.bool v14) v15 (.bool v16) (cl v0 v2 1) (cl v0 v2 0)) 12) (sl (Bc v17 (.bool v18) v4 v5 (.bool v6) v7 (.bool v8) v9 (.bool v10) v11 (.bool v12) (.int v13) (.int v24) v22 v25 v23 (.bool v26) (.bool v14) v15 (.bool v16) (cl v0 v2 1) (cl v0 v2 0)) 13) (sl (Bc v17 (.bool v18) v4 v5 (.bool v6) v7 (.bool v8) v9 (.bool v10) v11 (.bool v12) (.int v13) (.int v24) v22 v25 v23 (.bool v26) (.bool v14) v15 (.bool v16) (cl v0 v2 1) (cl v0 v2 0)) 14)) (
 .row [])) (
 .row [.int 1, (sl (Bc v17 (.bool v18) v4 v5 (.bool v6) v7 (.bool v8) v9 (.bool v10) v11 (.bool v12) (.int v13) (.int v24) v22 v25 v23 (.bool v26) (.bool v14) v15 (.bool v16) (cl v0 v2 1) (cl v0 v2 0)) 2), (sl (Bc v17 (.bool v18) v4 v5 (.bool v6) v7 (.bool v8) v9 (.bool v10) v11 (.bool v12) (.int v13) (.int v24) v22 v25 v23 (.bool v26) (.bool v14) v15 (.bool v16) (cl v0 v2 1) (cl v0 v2 0)) 3), (sl (Bc v17 (.bool v18) v4 v5 (.bool v6) v7 (.bool v8) v9 (.bool v10) v11 (.bool v12) (.int v13) (.int v24) v22 v25 v23 (.bool v26) (.bool v14) v15 (.bool v16) (cl v0 v2 1) (cl v0 v2 0)) 4), (sl (Bc v17 (.bool v18) v4 v5 (.bool v6) v7 (.bool v8) v9 (.bool v10) v11 (.bool v12) (.int v13) (.int v24) v22 v25 v23 (.bool v26) (.bool v14) v15 (.bool v16) (cl v0 v2 1) (cl v0 v2 0)) 5), (sl (Bc v17 (.bool v18) v4 v5 (.bool v6) v7 (.bool v8) v9 (.bool v10) v11 (.bool v12) (.int v13) (.int v24) v22 v25 v23 (.bool v26) (.bool v14) v15 (.bool v16) (cl v0 v2 1) (cl v0 v2 0)) 6), (sl (Bc v17 (.bool v18) v4 v5 (.bool v6) v7 (.bool v8) v9 (.bool v10) v11 (.bool v12) (.int v13) (.int v24) v22 v25 v23 (.bool v26) (.bool v14) v15 (.bool v16) (cl v0 v2 1) (cl v0 v2 0)) 7), (sl (Bc v17 (.bool v18) v4 v5 (.bool v6) v7 (.bool v8) v9 (.bool v10) v11 (.bool v12) (.int v13) (.int v24) v22 v25 v23 (.bool v26) (.bool v14) v15 (.bool v16) (cl v0 v2 1) (cl v0 v2 0)) 8), (sl (Bc v17 (.bool v18) v4 v5 (.bool v6) v7 (.bool v8) v9 (.bool v10) v11 (.bool v12) (.int v13) (.int v24) v22 v25 v23 (.bool v26) (.bool v14) v15 (.bool v16) (cl v0 v2 1) (cl v0 v2 0)) 9), (.int v19), v20, (.bool v21), (sl (Bc v17 (.bool v18) v4 v5 (.bool v6) v7 (.bool v8) v9 (.bool v10) v11 (.bool v12) (.int v13) (.int v24) v22 v25 v23 (.bool v26) (.bool v14) v15 (.bool v16) (cl v0 v2 1) (cl v0 v2 0)) 12), (sl (Bc v17 (.bool v18) v4 v5 (.bool v6) v7 (.bool v8) v9 (.bool v10) v11 (.bool v12) (.int v13) (.int v24) v22 v25 v23 (.bool v26) (.bool v14) v15 (.bool v16) (cl v0 v2 1) (cl v0 v2 0)) 13), (sl (Bc v17 (.bool v18) v4 v5 (.bool v6) v7 (.bool v8) v9 (.bool v10) v11 (.bool v12) (.int v13) (.int v24) v22 v25 v23 (.bool v26) (.bool v14) v15 (.bool v16) (cl v0 v2 1) (cl v0 v2 0)) 11), (sl (Bc v17 (.bool v18) v4 v5 (.bool v6) v7 (.bool v8) v9 (.bool v10) v11 (.bool v12) (.int v13) (.int v24) v22 v25 v23 (.bool v26) (.bool v14) v15 (.bool v16) (cl v0 v2 1) (cl v0 v2 0)) 14), (sl (Bc v17 (.bool v18) v4 v5 (.bool v6) v7 (.bool v8) v9 (.bool v10) v11 (.bool v12) (.int v13) (.int v24) v22 v25 v23 (.bool v26) (.bool v14) v15 (.bool v16) (cl v0 v2 1) (cl v0 v2 0)) 10)])) (
 .row [])))) (
 .row [.int 2, v11, (.bool v12), (.int v13), (.bool v14), v15, (.bool v16), v17, (.bool v18), (.int v19), v20, (.bool v21), (.int v24), v25, v23, (.bool v26), v22]) := gw rfl rfl (cL (cL rfl (cL rfl (cQ (cQ (cL rfl rfl) rfl) rfl))) rfl)
theorem Y3 (v0 : Bool) (v1 : D) (v2 : Bool) (v3 : Int) (v4 : D) (v5 : Bool) : Oj (.bool v0) v1 (.bool v2) (.int v3) v4 (.bool v5) =
 Qt v4 (.bool v5) (.int 0) (.bool v0) v1 (.bool v2) (.int v3) := gw rfl rfl rfl
theorem Wp (v0 : D) (v1 : Bool) (v2 : Int) (v3 : Bool) (v4 : D) (v5 : Bool) (v6 : Int) : Qt v0 (.bool v1) (.int v2) (.bool v3) v4 (.bool v5) (.int v6) =
  cond (v2 < len v0) (
 cond (v2 < 0) (
 .row []) (
 cond (v2 < len v4) (
 cond ((decide ((cl v0 v2 0).toInt = (cl v4 v2 0).toInt) && decide ((cl v0 v2 1).toInt = (cl v4 v2 1).toInt))) (
 Qt v0 (.bool v1) (.int (IntKind.wrap .i64 (v2 + 1))) (.bool v3) v4 (.bool v5) (.int (IntKind.wrap .i64 (v6 + 1)))) (
 .row [.int 1, (.int v6)])) (
 .row [.int 1, (.int v6)]))) (
 .row [.int 2, (.int v6)]) := gw rfl rfl (cL (cL rfl (cL (cg (aE (qE rfl rfl) (qE rfl rfl)) rfl rfl) rfl)) rfl)
theorem ZU (v0 : D) (v1 : Bool) (v2 v3 : D) (v4 : Bool) (v5 : D) (v6 : Bool) (v7 : D) (v8 : Bool) (v9 : D) (v10 : Bool) (v11 v12 : Int) (v13 v14 v15 : D) (v16 v17 : Bool) (v18 : D) (v19 : Bool) (v20 : D) : Fr v0 (.bool v1) v2 v3 (.bool v4) v5 (.bool v6) v7 (.bool v8) v9 (.bool v10) (.int v11) (.int v12) v13 v14 v15 (.bool v16) (.bool v17) v18 (.bool v19) v20 =
  cond ((sl (Fo v0 (.bool v1) v20) 0).toInt = 1) (
 .row [.int 1, (sl (Fo v0 (.bool v1) v20) 1), (sl (Fo v0 (.bool v1) v20) 2)]) (
 .row []) := gw rfl rfl (cQ rfl rfl)
theorem ZH (v0 v1 v2 v3 v4 : D) : WJ v0 v1 v2 v3 v4 =
  cond ((sl (Tl v0 v1 v2 v3) 0).toInt = 1) (
 cond ((sl (Tl v0 v1 v2 v3) 1).toBool) (
 cond ((sl (Jd) 0).toInt = 1) (
 .row [.int 1, (.bool true)]) (
 .row [])) (
 cond (60 < (len v4 : Int)) (
 cond ((sl (Jd) 0).toInt = 1) (
 .row [.int 1, (.bool true)]) (
 .row [])) (
 cond ((sl (AX v0 v1 v2 v3) 0).toInt = 1) (
 L8 v4 (.int 0) v0 v1 v2 v3 (sl (AX v0 v1 v2 v3) 1) (sl (AX v0 v1 v2 v3) 2) (sl (AX v0 v1 v2 v3) 3) (sl (AX v0 v1 v2 v3) 4) (sl (AX v0 v1 v2 v3) 5) (sl (AX v0 v1 v2 v3) 6) (sl (AX v0 v1 v2 v3) 7) (sl (AX v0 v1 v2 v3) 8) (sl (AX v0 v1 v2 v3) 9) (sl (AX v0 v1 v2 v3) 10) (.bool false) (sl (AX v0 v1 v2 v3) 11) (.bool true) (sl (AX v0 v1 v2 v3) 12) (sl (AX v0 v1 v2 v3) 13) (.int 0) (sl (AX v0 v1 v2 v3) 14) (sl (AX v0 v1 v2 v3) 15) (sl (AX v0 v1 v2 v3) 16) (sl (AX v0 v1 v2 v3) 1) (sl (AX v0 v1 v2 v3) 2) (sl (AX v0 v1 v2 v3) 3) (sl (AX v0 v1 v2 v3) 4) (sl (AX v0 v1 v2 v3) 5) (sl (AX v0 v1 v2 v3) 6) (sl (AX v0 v1 v2 v3) 7) (sl (AX v0 v1 v2 v3) 8) (sl (AX v0 v1 v2 v3) 9) (sl (AX v0 v1 v2 v3) 10) (sl (AX v0 v1 v2 v3) 11) (sl (AX v0 v1 v2 v3) 17) (sl (AX v0 v1 v2 v3) 12) (sl (AX v0 v1 v2 v3) 13) (sl (AX v0 v1 v2 v3) 14) (sl (AX v0 v1 v2 v3) 15) (sl (AX v0 v1 v2 v3) 16) (sl (AX v0 v1 v2 v3) 17)) (
 cond ((sl (AX v0 v1 v2 v3) 0).toInt = 2) (
 cond ((sl (AX v0 v1 v2 v3) 1).toInt = 0) (
 .row []) (
 cond ((sl (Jd) 0).toInt = 1) (
 .row [.int 1, (.bool true)]) (
 .row []))) (
 .row []))))) (
 .row []) := gw rfl rfl (cQ (cg rfl (cQ rfl rfl) (cL (cQ rfl rfl) (cQ rfl (cQ (cQ rfl (cQ rfl rfl)) rfl)))) rfl)
theorem WK (v0 : D) (v1 : Int) (v2 v3 v4 v5 v6 v7 : D) (v8 : Bool) (v9 : D) (v10 : Bool) (v11 : D) (v12 : Bool) (v13 : D) (v14 : Bool) (v15 : Int) (v16 : Bool) (v17 : D) (v18 : Bool) (v19 : D) (v20 : Bool) (v21 : Int) (v22 v23 : D) (v24 : Bool) (v25 v26 : D) (v27 : Bool) (v28 : D) (v29 : Bool) (v30 : D) (v31 : Bool) (v32 : D) (v33 : Bool) (v34 : Int) (v35 v36 v37 : D) (v38 : Bool) (v39 v40 : D) (v41 : Bool) (v42 : D) {F0 F1 F2 F3 F4 F5 F6 : D} (h0 : Bc v19 (.bool v20) v6 v7 (.bool v8) v9 (.bool v10) v11 (.bool v12) v13 (.bool v14) (.int v15) (.int v21) v36 v22 v23 (.bool v24) (.bool v16) v17 (.bool v18) (cl v0 v1 1) (cl v0 v1 2) = F0) (h1 : N4 v19 (.bool v20) v6 v7 (.bool v8) v9 (.bool v10) v11 (.bool v12) v13 (.bool v14) (.int v15) (.int v21) v36 v22 v23 (.bool v24) (.bool v16) v17 (.bool v18) (cl v0 v1 1) (cl v0 v1 3) (cl v0 v1 4) = F1) (h2 : T6 v19 (.bool v20) v6 v7 (.bool v8) v9 (.bool v10) v11 (.bool v12) v13 (.bool v14) (.int v15) (.int v21) v36 v22 v23 (.bool v24) (.bool v16) v17 (.bool v18) = F2) (h3 : Bc v19 (.bool v20) v6 v7 (.bool v8) v9 (.bool v10) v11 (.bool v12) v13 (.bool v14) (.int v15) (.int v21) v36 v22 v23 (.bool v24) (.bool v16) v17 (.bool v18) (sl F2 1) (cl v0 v1 2) = F3) (h4 : TZ v19 (.bool v20) v6 v7 (.bool v8) v9 (.bool v10) v11 (.bool v12) v13 (.bool v14) (.int v15) (.int v21) v36 v22 v23 (.bool v24) (.bool v16) v17 (.bool v18) (cl v0 v1 1) = F4) (h5 : GG v17 (.bool v18) = F5) (h6 : WA (.bool false) v37 (.bool v38) v25 v26 (.bool v27) v28 (.bool v29) v30 (.bool v31) v32 (.bool v33) (.int v34) (.int 0) v42 v39 v40 (.bool v41) (.bool false) v35 (.bool true) (.int 0) AN (.bool true) (sl F5 1) (sl F5 2) = F6) : L8 v0 (.int v1) v2 v3 v4 v5 v6 v7 (.bool v8) v9 (.bool v10) v11 (.bool v12) v13 (.bool v14) (.int v15) (.bool v16) v17 (.bool v18) v19 (.bool v20) (.int v21) v22 v23 (.bool v24) v25 v26 (.bool v27) v28 (.bool v29) v30 (.bool v31) v32 (.bool v33) (.int v34) v35 v36 v37 (.bool v38) v39 v40 (.bool v41) v42 =
  cond (v1 < len v0) (
 cond (v1 < 0) (
 .row []) (
 cond (60 < (A1 (cl v0 v1 3) : Int)) (
 cond ((sl (Jd) 0).toInt = 1) (
 .row [.int 1, (.bool true)]) (
 .row [])) (
 cond (60 < (A1 (cl v0 v1 4) : Int)) (
 cond ((sl (Jd) 0).toInt = 1) (
 .row [.int 1, (.bool true)]) (
 .row [])) (
 cond ((cl v0 v1 0).toInt = 0) (
 cond ((sl F4 0).toInt = 1) (
 CV v0 (.int v1) (.int 0) v2 v3 v4 v5 v6 v7 (.bool v8) v9 (.bool v10) v11 (.bool v12) v13 (.bool v14) (.int v15) (sl F4 4) v17 (.bool v18) v19 (.bool v20) (sl F4 7) (sl F4 8) (sl F4 6) (sl F4 9) v25 v26 (.bool v27) v28 (.bool v29) v30 (.bool v31) v32 (.bool v33) (.int v34) v35 (sl F4 5) v37 (.bool v38) v39 v40 (.bool v41) v42) (
 .row [])) (
 cond ((cl v0 v1 0).toInt = 1) (
 cond ((sl F4 0).toInt = 1) (
 CV v0 (.int v1) (.int 0) v2 v3 v4 v5 v6 v7 (.bool v8) v9 (.bool v10) v11 (.bool v12) v13 (.bool v14) (.int v15) (sl F4 4) v17 (.bool v18) v19 (.bool v20) (sl F4 7) (sl F4 8) (sl F4 6) (sl F4 9) v25 v26 (.bool v27) v28 (.bool v29) v30 (.bool v31) v32 (.bool v33) (.int v34) v35 (sl F4 5) v37 (.bool v38) v39 v40 (.bool v41) v42) (
 .row [])) (
 cond ((cl v0 v1 0).toInt = 2) (
 cond ((sl F0 0).toInt = 1) (
 CV v0 (.int v1) (.int 0) v2 v3 v4 v5 v6 v7 (.bool v8) v9 (.bool v10) v11 (.bool v12) (sl F0 2) (sl F0 3) (sl F0 4) (sl F0 5) (sl F0 6) (sl F0 7) (sl F0 8) (sl F0 9) (sl F0 12) (sl F0 13) (sl F0 11) (sl F0 14) v25 v26 (.bool v27) v28 (.bool v29) v30 (.bool v31) v32 (.bool v33) (.int v34) v35 (sl F0 10) v37 (.bool v38) v39 v40 (.bool v41) v42) (
 .row [])) (
 cond ((cl v0 v1 0).toInt = 3) (
 cond ((sl F0 0).toInt = 1) (
 CV v0 (.int v1) (.int 0) v2 v3 v4 v5 v6 v7 (.bool v8) v9 (.bool v10) v11 (.bool v12) (sl F0 2) (sl F0 3) (sl F0 4) (sl F0 5) (sl F0 6) (sl F0 7) (sl F0 8) (sl F0 9) (sl F0 12) (sl F0 13) (sl F0 11) (sl F0 14) v25 v26 (.bool v27) v28 (.bool v29) v30 (.bool v31) v32 (.bool v33) (.int v34) v35 (sl F0 10) v37 (.bool v38) v39 v40 (.bool v41) v42) (
 .row [])) (
 cond ((cl v0 v1 0).toInt = 4) (
 cond ((sl F0 0).toInt = 1) (
 CV v0 (.int v1) (.int 0) v2 v3 v4 v5 v6 v7 (.bool v8) v9 (.bool v10) v11 (.bool v12) (sl F0 2) (sl F0 3) (sl F0 4) (sl F0 5) (sl F0 6) (sl F0 7) (sl F0 8) (sl F0 9) (sl F0 12) (sl F0 13) (sl F0 11) (sl F0 14) v25 v26 (.bool v27) v28 (.bool v29) v30 (.bool v31) v32 (.bool v33) (.int v34) v35 (sl F0 10) v37 (.bool v38) v39 v40 (.bool v41) v42) (
 .row [])) (
 cond ((cl v0 v1 0).toInt = 7) (
 cond ((sl F0 0).toInt = 1) (
 CV v0 (.int v1) (.int 0) v2 v3 v4 v5 v6 v7 (.bool v8) v9 (.bool v10) v11 (.bool v12) (sl F0 2) (sl F0 3) (sl F0 4) (sl F0 5) (sl F0 6) (sl F0 7) (sl F0 8) (sl F0 9) (sl F0 12) (sl F0 13) (sl F0 11) (sl F0 14) v25 v26 (.bool v27) v28 (.bool v29) v30 (.bool v31) v32 (.bool v33) (.int v34) v35 (sl F0 10) v37 (.bool v38) v39 v40 (.bool v41) v42) (
 .row [])) (
 cond ((cl v0 v1 0).toInt = 5) (
 cond ((sl F1 0).toInt = 1) (
 CV v0 (.int v1) (.int 0) v2 v3 v4 v5 v6 v7 (.bool v8) v9 (.bool v10) v11 (.bool v12) (sl F1 3) (sl F1 4) (sl F1 5) (sl F1 6) (sl F1 7) (sl F1 8) (sl F1 9) (sl F1 10) (sl F1 13) (sl F1 14) (sl F1 12) (sl F1 15) v25 v26 (.bool v27) v28 (.bool v29) v30 (.bool v31) v32 (.bool v33) (.int v34) v35 (sl F1 11) v37 (.bool v38) v39 v40 (.bool v41) v42) (
 .row [])) (
 cond ((cl v0 v1 0).toInt = 6) (
 cond ((sl F1 0).toInt = 1) (
 CV v0 (.int v1) (.int 0) v2 v3 v4 v5 v6 v7 (.bool v8) v9 (.bool v10) v11 (.bool v12) (sl F1 3) (sl F1 4) (sl F1 5) (sl F1 6) (sl F1 7) (sl F1 8) (sl F1 9) (sl F1 10) (sl F1 13) (sl F1 14) (sl F1 12) (sl F1 15) v25 v26 (.bool v27) v28 (.bool v29) v30 (.bool v31) v32 (.bool v33) (.int v34) v35 (sl F1 11) v37 (.bool v38) v39 v40 (.bool v41) v42) (
 .row [])) (
 cond ((sl F2 0).toInt = 1) (
 cond ((sl F2 2).toInt = 0) (
 cond ((sl F3 0).toInt = 1) (
 CV v0 (.int v1) (.int 0) v2 v3 v4 v5 v6 v7 (.bool v8) v9 (.bool v10) v11 (.bool v12) (sl F3 2) (sl F3 3) (sl F3 4) (sl F3 5) (sl F3 6) (sl F3 7) (sl F3 8) (sl F3 9) (sl F3 12) (sl F3 13) (sl F3 11) (sl F3 14) v25 v26 (.bool v27) v28 (.bool v29) v30 (.bool v31) v32 (.bool v33) (.int v34) v35 (sl F3 10) v37 (.bool v38) v39 v40 (.bool v41) v42) (
 .row [])) (
 CV v0 (.int v1) (.int 0) v2 v3 v4 v5 v6 v7 (.bool v8) v9 (.bool v10) v11 (.bool v12) v13 (.bool v14) (.int v15) (.bool v16) v17 (.bool v18) v19 (.bool v20) (.int v21) v22 v23 (.bool v24) v25 v26 (.bool v27) v28 (.bool v29) v30 (.bool v31) v32 (.bool v33) (.int v34) v35 v36 v37 (.bool v38) v39 v40 (.bool v41) v42)) (
 .row []))))))))))))) (
 cond ((sl F5 0).toInt = 1) (
 cond ((sl F6 0).toInt = 1) (
 .row [.int 1, (.bool false)]) (
 cond ((sl F6 0).toInt = 2) (
 cond ((sl (GG (sl F6 5) (sl F6 6)) 0).toInt = 1) (
 cond ((sl (Oj (.bool false) (sl F6 10) (sl F6 11) (.int 0) (sl (GG (sl F6 5) (sl F6 6)) 1) (sl (GG (sl F6 5) (sl F6 6)) 2)) 0).toInt = 1) (
 .row [.int 1, (.bool false)]) (
 cond ((sl (Oj (.bool false) (sl F6 10) (sl F6 11) (.int 0) (sl (GG (sl F6 5) (sl F6 6)) 1) (sl (GG (sl F6 5) (sl F6 6)) 2)) 0).toInt = 2) (
 Og (.int 0) v2 v3 v4 v5 (sl F6 10) (sl F6 11) (sl (Oj (.bool false) (sl F6 10) (sl F6 11) (.int 0) (sl (GG (sl F6 5) (sl F6 6)) 1) (sl (GG (sl F6 5) (sl F6 6)) 2)) 1) v6 v7 (.bool v8) v9 (.bool v10) v11 (.bool v12) v13 (.bool v14) (.int v15) (.bool v16) v17 (.bool v18) v19 (.bool v20) (.int v21) v22 v23 (.bool v24) v25 v26 (.bool v27) v28 (.bool v29) v30 (.bool v31) (sl F6 1) (sl F6 2) (sl F6 3) (sl F6 4) (sl F6 5) (sl F6 6) v36 (sl F6 7) (sl F6 8) (sl F6 12) (sl F6 13) (sl F6 14) (sl F6 15) (sl F6 16)) (
 .row []))) (
 .row [])) (
 .row []))) (
 .row [])) := by
  subst h0; subst h1; subst h2; subst h3; subst h4; subst h5; subst h6; exact gw rfl rfl (cL (cL rfl (cL (cQ rfl rfl) (cL (cQ rfl rfl) (cQ (cQ rfl rfl) (cQ (cQ rfl rfl) (cQ (cQ rfl rfl) (cQ (cQ rfl rfl) (cQ (cQ rfl rfl) (cQ (cQ rfl rfl) (cQ (cQ rfl rfl) (cQ (cQ rfl rfl) (cQ (cQ (cQ rfl rfl) rfl) rfl)))))))))))) (cQ (cQ rfl (cQ (cQ (cQ rfl (cQ rfl rfl)) rfl) rfl)) rfl))
theorem WL (v0 : D) (v1 v2 : Int) (v3 v4 v5 v6 v7 v8 : D) (v9 : Bool) (v10 : D) (v11 : Bool) (v12 : D) (v13 : Bool) (v14 : D) (v15 : Bool) (v16 : Int) (v17 : Bool) (v18 : D) (v19 : Bool) (v20 : D) (v21 : Bool) (v22 : Int) (v23 v24 : D) (v25 : Bool) (v26 v27 : D) (v28 : Bool) (v29 : D) (v30 : Bool) (v31 : D) (v32 : Bool) (v33 : D) (v34 : Bool) (v35 : Int) (v36 v37 v38 : D) (v39 : Bool) (v40 v41 : D) (v42 : Bool) (v43 : D) : CV v0 (.int v1) (.int v2) v3 v4 v5 v6 v7 v8 (.bool v9) v10 (.bool v11) v12 (.bool v13) v14 (.bool v15) (.int v16) (.bool v17) v18 (.bool v19) v20 (.bool v21) (.int v22) v23 v24 (.bool v25) v26 v27 (.bool v28) v29 (.bool v30) v31 (.bool v32) v33 (.bool v34) (.int v35) v36 v37 v38 (.bool v39) v40 v41 (.bool v42) v43 =
  cond (v2 < len v5) (
 cond (v2 < 0) (
 .row []) (
 cond ((sl (Fr v20 (.bool v21) v7 v8 (.bool v9) v10 (.bool v11) v12 (.bool v13) v14 (.bool v15) (.int v16) (.int v22) v37 v23 v24 (.bool v25) (.bool v17) v18 (.bool v19) (cl v5 v2 0)) 0).toInt = 1) (
 cond ((sl (Fr v20 (.bool v21) v7 v8 (.bool v9) v10 (.bool v11) v12 (.bool v13) v14 (.bool v15) (.int v16) (.int v22) v37 v23 v24 (.bool v25) (.bool v17) v18 (.bool v19) (cl v5 v2 0)) 2).toInt = 0) (
 cond ((sl (Fr v20 (.bool v21) v7 v8 (.bool v9) v10 (.bool v11) v12 (.bool v13) v14 (.bool v15) (.int v16) (.int v22) v37 v23 v24 (.bool v25) (.bool v17) v18 (.bool v19) (cl v5 v2 0)) 1).toInt < 0) (
 .row [.int 1, (.bool false)]) (
 cond ((cl v5 v2 1).toInt < (sl (Fr v20 (.bool v21) v7 v8 (.bool v9) v10 (.bool v11) v12 (.bool v13) v14 (.bool v15) (.int v16) (.int v22) v37 v23 v24 (.bool v25) (.bool v17) v18 (.bool v19) (cl v5 v2 0)) 1).toInt) (
 .row [.int 1, (.bool false)]) (
 CV v0 (.int v1) (.int (IntKind.wrap .i64 (v2 + 1))) v3 v4 v5 v6 v7 v8 (.bool v9) v10 (.bool v11) v12 (.bool v13) v14 (.bool v15) (.int v16) (.bool v17) v18 (.bool v19) v20 (.bool v21) (.int v22) v23 v24 (.bool v25) v26 v27 (.bool v28) v29 (.bool v30) v31 (.bool v32) v33 (.bool v34) (.int v35) v36 v37 v38 (.bool v39) v40 v41 (.bool v42) v43))) (
 .row [.int 1, (.bool false)])) (
 .row []))) (
 L8 v0 (.int (IntKind.wrap .i64 (v1 + 1))) v3 v4 v5 v6 v7 v8 (.bool v9) v10 (.bool v11) v12 (.bool v13) v14 (.bool v15) (.int v16) (.bool v17) v18 (.bool v19) v20 (.bool v21) (.int v22) v23 v24 (.bool v25) v26 v27 (.bool v28) v29 (.bool v30) v31 (.bool v32) v33 (.bool v34) (.int v35) v36 v37 v38 (.bool v39) v40 v41 (.bool v42) v43) := gw rfl rfl (cL (cL rfl (cQ (cQ rfl rfl) rfl)) rfl)
theorem Wf (v0 : Int) (v1 v2 v3 v4 v5 : D) (v6 : Bool) (v7 : Int) (v8 v9 : D) (v10 : Bool) (v11 : D) (v12 : Bool) (v13 : D) (v14 : Bool) (v15 : D) (v16 : Bool) (v17 : Int) (v18 : Bool) (v19 : D) (v20 : Bool) (v21 : D) (v22 : Bool) (v23 : Int) (v24 v25 : D) (v26 : Bool) (v27 v28 : D) (v29 : Bool) (v30 : D) (v31 : Bool) (v32 : D) (v33 : Bool) (v34 : D) (v35 : Bool) (v36 : Int) (v37 : Bool) (v38 : D) (v39 : Bool) (v40 v41 : D) (v42 : Bool) (v43 : Int) (v44 v45 : D) (v46 : Bool) (v47 : D) : Og (.int v0) v1 v2 v3 v4 v5 (.bool v6) (.int v7) v8 v9 (.bool v10) v11 (.bool v12) v13 (.bool v14) v15 (.bool v16) (.int v17) (.bool v18) v19 (.bool v20) v21 (.bool v22) (.int v23) v24 v25 (.bool v26) v27 v28 (.bool v29) v30 (.bool v31) v32 (.bool v33) v34 (.bool v35) (.int v36) (.bool v37) v38 (.bool v39) v40 v41 (.bool v42) (.int v43) v44 v45 (.bool v46) v47 =
  cond (v0 < len v3) (
 cond (v0 < 0) (
 .row []) (
 cond ((sl (Fr v21 (.bool v22) v8 v9 (.bool v10) v11 (.bool v12) v13 (.bool v14) v15 (.bool v16) (.int v17) (.int v23) v40 v24 v25 (.bool v26) (.bool v18) v19 (.bool v20) (cl v3 v0 0)) 0).toInt = 1) (
 cond ((sl (Fr v41 (.bool v42) v27 v28 (.bool v29) v30 (.bool v31) v32 (.bool v33) v34 (.bool v35) (.int v36) (.int v43) v47 v44 v45 (.bool v46) (.bool v37) v38 (.bool v39) (cl v3 v0 0)) 0).toInt = 1) (
 cond ((sl (Fr v21 (.bool v22) v8 v9 (.bool v10) v11 (.bool v12) v13 (.bool v14) v15 (.bool v16) (.int v17) (.int v23) v40 v24 v25 (.bool v26) (.bool v18) v19 (.bool v20) (cl v3 v0 0)) 1).toInt = (sl (Fr v41 (.bool v42) v27 v28 (.bool v29) v30 (.bool v31) v32 (.bool v33) v34 (.bool v35) (.int v36) (.int v43) v47 v44 v45 (.bool v46) (.bool v37) v38 (.bool v39) (cl v3 v0 0)) 1).toInt) (
 cond ((IntKind.wrap .i64 ((sl (Fr v21 (.bool v22) v8 v9 (.bool v10) v11 (.bool v12) v13 (.bool v14) v15 (.bool v16) (.int v17) (.int v23) v40 v24 v25 (.bool v26) (.bool v18) v19 (.bool v20) (cl v3 v0 0)) 2).toInt + (sl (Fr v41 (.bool v42) v27 v28 (.bool v29) v30 (.bool v31) v32 (.bool v33) v34 (.bool v35) (.int v36) (.int v43) v47 v44 v45 (.bool v46) (.bool v37) v38 (.bool v39) (cl v3 v0 0)) 2).toInt)) = 0) (
 Og (.int (IntKind.wrap .i64 (v0 + 1))) v1 v2 v3 v4 v5 (.bool v6) (.int v7) v8 v9 (.bool v10) v11 (.bool v12) v13 (.bool v14) v15 (.bool v16) (.int v17) (.bool v18) v19 (.bool v20) v21 (.bool v22) (.int v23) v24 v25 (.bool v26) v27 v28 (.bool v29) v30 (.bool v31) v32 (.bool v33) v34 (.bool v35) (.int v36) (.bool v37) v38 (.bool v39) v40 v41 (.bool v42) (.int v43) v44 v45 (.bool v46) v47) (
 .row [.int 1, (.bool false)])) (
 .row [.int 1, (.bool false)])) (
 .row [])) (
 .row []))) (
 cond (v7 = len v5) (
 cond (D.strEq v15 v34) (
 cond (v16) (
 cond (v35) (
 cond ((sl (Jd) 0).toInt = 1) (
 .row [.int 1, (.bool true)]) (
 .row [])) (
 .row [.int 1, (.bool false)])) (
 cond (v35) (
 .row [.int 1, (.bool false)]) (
 cond ((sl (Jd) 0).toInt = 1) (
 .row [.int 1, (.bool true)]) (
 .row [])))) (
 .row [.int 1, (.bool false)])) (
 .row [.int 1, (.bool false)])) := gw rfl rfl (cL (cL rfl (cQ (cQ (cQ (cQ rfl rfl) rfl) rfl) rfl)) (cQ (cg rfl (cg rfl (cg rfl (cQ rfl rfl) rfl) (cg rfl rfl (cQ rfl rfl))) rfl) rfl))
end
end Mr
namespace Mr
open Go Go.AE
theorem Mj (v : D) (i : Int) : 0 ≤ sAt v i ∧ sAt v i < 256 := by
 unfold sAt;have := ((v.toStr.data.toList[i.toNat]?).getD 0).toNat_lt;omega
theorem KG {v : D} : len (Oc v) = A1 v := by
 show (List.map _ _).length = _;simp [A1]
theorem Rh {v : D} {i : Nat} (h : i < A1 v) : (cl (Oc v) i 0).toInt = sAt v i := by
 unfold cl sAt Oc;have h' : i < v.toStr.data.toList.length := h;simp [D.rows, List.getD_eq_getElem?_getD, List.getElem?_eq_getElem h', D.cells, D.toInt]
theorem Qy {x : Int} (h0 : 0 ≤ x) (h1 : x < 256) : IntKind.wrap .u8 x = x := by
 simp only [IntKind.wrap, IntKind.bits, IntKind.signed];have := Int.emod_eq_of_lt h0 h1
 simp_all
section
variable [Ao]
theorem LC {v : D} (hs : A1 v ≤ 32) : ∀ (k i : Nat), i + k = A1 v → 1 ≤ i → ∃ b, Qa (Oc v) (.int (A1 v : Nat)) (.int i) = .row [.int 1, .bool b]
 | 0, i, hi, h1 => by
  exact ⟨true, by rw [WZ, ifF (by omega)]⟩
 | k + 1, i, hi, h1 => by
  obtain ⟨b, q1⟩ := LC hs k (i + 1) (by omega) (by omega)
  have hr := Mj v i;have hc := Rh (v := v) (i := i) (by omega)
  have A := WZ (Oc v) (A1 v : Nat) (i : Int);rw [hc, Qy hr.1 hr.2, KG, AT (by omega) (by omega), show (i : Int) + 1 = ((i + 1 : Nat) : Int) by omega, q1, ifT (by omega), ifF (by omega), ifT (by omega)] at A
  rw [A];have hi0 : decide ((i : Int) = 0) = false := decide_eq_false (by omega)
  rw [hi0];simp only [cond_false];generalize sAt v i = c;by_cases c1 : c < 97
  ·simp only [ifT c1];by_cases c2 : c < 65
   ·simp only [ifT c2];by_cases c3 : c < 48
    ·simp only [ifT c3]; exact ⟨_, rfl⟩
    ·simp only [ifF c3];by_cases c4 : 57 < c
     ·simp only [ifT c4]; exact ⟨_, rfl⟩
     ·simp only [ifF c4]; exact ⟨_, rfl⟩
   ·simp only [ifF c2];by_cases c3 : 90 < c
    ·simp only [ifT c3];by_cases c4 : c = 95
     ·simp only [ifT c4]; exact ⟨_, rfl⟩
     ·simp only [ifF c4]; exact ⟨_, rfl⟩
    ·simp only [ifF c3]; exact ⟨_, rfl⟩
  ·simp only [ifF c1];by_cases c2 : 122 < c
   ·simp only [ifT c2]; exact ⟨_, by cases decide ((i : Int) = 0) <;> rfl⟩
   ·simp only [ifF c2]; exact ⟨_, rfl⟩
theorem V0 (v : D) : ∃ b, Ft v = .row [.int 1, .bool b] := by
 rw [be];by_cases c1 : (A1 v : Int) < 1
 ·simp only [ifT c1]; exact ⟨_, rfl⟩
 simp only [ifF c1];by_cases c2 : 32 < (A1 v : Int)
 ·simp only [ifT c2]; exact ⟨_, rfl⟩
 simp only [ifF c2];obtain ⟨b, q1⟩ := LC (v := v) (by omega) (A1 v - 1) 1 (by omega) (Nat.le_refl _)
 have hr := Mj v (0 : Nat);have hc := Rh (v := v) (i := 0) (by omega)
 have A := WZ (Oc v) (A1 v : Nat) ((0 : Nat) : Int);rw [hc, Qy hr.1 hr.2, KG, AT (by omega) (by omega), show ((0 : Nat) : Int) + 1 = ((1 : Nat) : Int) by omega, q1, ifT (by omega), ifF (by omega), ifT (by omega)] at A
 have z : ((0 : Nat) : Int) = 0 := rfl;rw [z] at A hr;rw [KG, A];generalize sAt v 0 = c;have hi0 : decide ((0 : Int) = 0) = true := rfl;rw [hi0];simp only [cond_true];cases decide (c < 97) <;> cases decide (c < 65) <;> cases decide (90 < c) <;> cases decide (122 < c) <;> exact ⟨_, rfl⟩
end
end Mr
namespace Mr
open Go Go.AE
def fd (l key : D) : Int := fdG (fun j => D.strEq (cl l j 0) key) (len l) 0
theorem LT {l key : D} : fd l key < len l := by
 have := MO (p := fun j => D.strEq (cl l j 0) key) (k := len l) (i := 0)
 unfold fd; omega
theorem YD {l key : D} : fd l key = -1 ∨ 0 ≤ fd l key := by
 have := MT (p := fun j => D.strEq (cl l j 0) key) (k := len l) (i := 0)
 unfold fd; omega
theorem Qm {l : D} {i : Nat} (h : i < len l) : 0 ≤ fd l (cl l i 0) ∧ fd l (cl l i 0) ≤ i := P9 (p := fun j => D.strEq (cl l j 0) (cl l i 0)) (Nat.zero_le _) (by omega) IN
theorem Wy {l key : D} (h : 0 ≤ fd l key) : D.strEq (cl l (fd l key) 0) key = true := by
 have := PO (p := fun j => D.strEq (cl l j 0) key) (k := len l) (i := 0) h
 have e : ((fd l key).toNat : Int) = fd l key := by omega
 rw [← e];exact this
theorem Ix {F : Int → D} {l key : D} (hn : len l < 4611686018427387904) (h : ∀ i : Int, F i = cond (decide (i < (len l : Int))) (cond (decide (i < 0)) (.row []) (cond (D.strEq (cl l i 0) key) (.row [.int 1, .int i]) (F (IntKind.wrap .i64 (i + 1))))) (.row [.int 1, .int (-1)])) : F 0 = .row [.int 1, .int (fd l key)] := by
 refine find (F := fun i => F (i : Int)) (n := len l) (bad := fun j => D.strEq (cl l j 0) key) (fun j hj => ?_) ?_
 ·show F (j : Int) = _;rw [h, ifT (by omega), ifF (by omega), CZ (by omega)]
 ·show F (len l : Int) = _;rw [h, ifF (by omega)]
section
variable [Ao]
variable {v0 v1 v2 v3 v4 v5 : D}
theorem WP (hn : len v0 < 4611686018427387904) (k : D) : Tu v0 k = .row [.int 1, .int (fd v0 k)] := (eG ..).trans (Ix (F := fun i => UN v0 (.int i) k) hn fun i => ez ..)
theorem Wm (hn : len v0 < 4611686018427387904) (k : D) : Im v0 k = .row [.int 1, .int (fd v0 k)] := (eO ..).trans (Ix (F := fun i => V7 v0 (.int i) k) hn fun i => ek ..)
def nm (v : D) : Bool := (sl (Ft v) 1).toBool
theorem Qu (v : D) : Ft v = .row [.int 1, .bool (nm v)] := by
 obtain ⟨b, q1⟩ := V0 v;unfold nm;rw [q1];rfl
def Rr (v2 : D) (i : Nat) : Bool := !nm (cl v2 i 0) || decide (fd v2 (cl v2 i 0) < i) || decide ((cl v2 i 1).toInt < 1) || decide (1000 < (cl v2 i 1).toInt)
def N2 (v1 : D) (i : Nat) : Bool := !nm (cl v1 i 0) || decide (fd v1 (cl v1 i 0) < i) || decide ((cl v1 i 2).toInt < 0) || decide (1048576 < (cl v1 i 2).toInt)
theorem YK (hn : len v2 < 1000) (v0 v1 v3 : D) : Uy (.int (len v2 : Nat)) (.int 0) (.int 4) v0 v1 v2 v3 = .row [.int 1, .int (cond (decide (4 < (len v2 : Int))) 4 (fdG (Rr v2) (len v2) 0))] := by
 rw [dN, ifF (by omega)]
 by_cases c : 4 < (len v2 : Int)
 ·rw [ifT c, ifT c]
 rw [ifF c, ifF c];refine find (F := fun i => RO (.int (len v2 : Nat)) (.int (i : Nat)) v0 v1 v2 v3) (n := len v2) (bad := Rr v2) (fun j hj => ?_) ?_
 ·show RO _ (.int (j : Nat)) _ _ _ _ = _;rw [YI, ifT (by omega), ifF (by omega), ifT (by omega)]
  simp only [Qu, WP (v0 := v2) (by omega), Bt, Bs, Az, A9, decide_true, cond_true, CZ (i := j) (by omega)]
  unfold Rr;cases nm (cl v2 j 0) <;> cases decide (fd v2 (cl v2 j 0) < j) <;> cases decide ((cl v2 j 1).toInt < 1) <;> cases decide (1000 < (cl v2 j 1).toInt) <;> rfl
 ·show RO _ (.int (len v2 : Nat)) _ _ _ _ = _;rw [YI, ifF (by omega)]
theorem cB (hn : len v1 < 1000) (v0 v2 v3 : D) : SN (.int (len v1 : Nat)) (.int 1) (.int 24) v0 v1 v2 v3 = .row [.int 1, .int (cond (decide ((len v1 : Int) < 1)) 0 (cond (decide (24 < (len v1 : Int))) 24 (fdG (N2 v1) (len v1) 0)))] := by
 rw [eL];by_cases c : (len v1 : Int) < 1
 ·rw [ifT c, ifT c]
 rw [ifF c, ifF c];by_cases c : 24 < (len v1 : Int)
 ·rw [ifT c, ifT c]
 rw [ifF c, ifF c];refine find (F := fun i => R8 (.int (len v1 : Nat)) (.int (i : Nat)) v0 v1 v2 v3) (n := len v1) (bad := N2 v1) (fun j hj => ?_) ?_
 ·show R8 _ (.int (j : Nat)) _ _ _ _ = _;rw [ai, ifT (by omega), ifF (by omega), ifT (by omega)]
  simp only [Qu, Wm (v0 := v1) (by omega), Bt, Bs, Az, A9, decide_true, cond_true, CZ (i := j) (by omega)]
  unfold N2;cases nm (cl v1 j 0) <;> cases decide (fd v1 (cl v1 j 0) < j) <;> cases decide ((cl v1 j 2).toInt < 0) <;> cases decide (1048576 < (cl v1 j 2).toInt) <;> rfl
 ·show R8 _ (.int (len v1 : Nat)) _ _ _ _ = _;rw [ai, ifF (by omega)]
end
end Mr
namespace Mr
open Go Go.AE
def F9 (v3 : D) (i j : Nat) : Bool := D.strEq (cl v3 j 0) (cl v3 i 0) && (D.strEq (cl v3 j 1) (cl v3 i 1) && (decide ((cl v3 j 2).toInt = (cl v3 i 2).toInt) && (D.strEq (cl v3 j 3) (cl v3 i 3) && (D.strEq (cl v3 j 4) (cl v3 i 4) && (D.strEq (cl v3 j 5) (cl v3 i 5) && (decide ((cl v3 j 6).toInt = (cl v3 i 6).toInt) && (decide ((cl v3 j 7).toInt = (cl v3 i 7).toInt) && decide ((cl v3 j 8).toInt = (cl v3 i 8).toInt))))))))
def dup (v3 : D) (i : Nat) : Bool := !decide (fdG (F9 v3 i) i 0 < 0)
def Yh (v2 v3 : D) (i : Nat) : Bool := cond (eqC (cl v3 i 5) 0 0) (cond (decide ((cl v3 i 6).toInt = 0)) (cond (decide ((cl v3 i 7).toInt = 0)) (cond (decide ((cl v3 i 8).toInt = 0)) false true) true) true)
 (cond (decide (fd v2 (cl v3 i 5) < 0)) true (cond (decide ((cl v3 i 6).toInt < 0)) true (cond (decide ((cl v3 i 7).toInt < (cl v3 i 6).toInt)) true (cond (decide ((cl v3 i 8).toInt < (-1000))) true (cond (decide (1000 < (cl v3 i 8).toInt)) true
  (cond (decide ((cl v2 (fd v2 (cl v3 i 5)) 1).toInt < (cl v3 i 7).toInt)) true (cond (decide (IntKind.wrap .i64 ((cl v3 i 6).toInt + (cl v3 i 8).toInt) < 0)) true (cond (decide ((cl v2 (fd v2 (cl v3 i 5)) 1).toInt < IntKind.wrap .i64 ((cl v3 i 7).toInt + (cl v3 i 8).toInt))) true false))))))))
def G3 (v3 : D) : Prop := ∀ i : Nat, i < len v3 → (∃ n, cl v3 i 2 = .int n) ∧ (∃ n, cl v3 i 6 = .int n) ∧ (∃ n, cl v3 i 7 = .int n) ∧ (∃ n, cl v3 i 8 = .int n) ∧ A1 (cl v3 i 3) < 4611686018427387904 ∧ A1 (cl v3 i 4) < 4611686018427387904
section
variable [Ao]
def WS (v0 v1 v3 : D) (i : Nat) : Bool := cond (decide ((cl v3 i 2).toInt = 1)) (cond (nm (cl v3 i 3)) (cond (nm (cl v3 i 4)) (D.strEq (cl v3 i 4) v0) true) true)
 (cond (decide ((cl v3 i 2).toInt = 2)) (cond (nm (cl v3 i 3)) (cond (nm (cl v3 i 4)) (D.strEq (cl v3 i 4) v0) true) true)
 (cond (decide ((cl v3 i 2).toInt = 3)) (cond (eqC (cl v3 i 3) 0 0) (cond (eqC (cl v3 i 4) 0 0) (!decide (0 < (cl v1 (fd v1 (cl v3 i 0)) 2).toInt)) true) true)
 (cond (decide ((cl v3 i 2).toInt = 4)) (cond (eqC (cl v3 i 3) 0 0) (cond (eqC (cl v3 i 4) 0 0) false true) true) true)))
def Le (v0 v1 v2 v3 : D) (i : Nat) : Bool := decide (fd v1 (cl v3 i 0) < 0) || (decide (fd v1 (cl v3 i 1) < 0) || (dup v3 i || (WS v0 v1 v3 i || Yh v2 v3 i)))
variable {v0 v1 v2 v3 : D}
theorem Yr (hs : G3 v3) (hn : len v3 < 1000) {i : Nat} (hi : i < len v3) : ∃ n : Int, XK (sb v3 0 i) (cl v3 i 0) (cl v3 i 1) (cl v3 i 2) (cl v3 i 3) (cl v3 i 4) (cl v3 i 5) (cl v3 i 6) (cl v3 i 7) (cl v3 i 8) = .row [.int 1, .int n] ∧ decide (n < 0) = !dup v3 i := by
 obtain ⟨⟨n2, h2⟩, ⟨n6, h6⟩, ⟨n7, h7⟩, ⟨n8, h8⟩, _⟩ := hs i hi;refine ⟨fdG (F9 v3 i) i 0, ?_, by unfold dup; rw [Bool.not_not]⟩
 have hl : len (sb v3 0 i) = i := by
  have := Tg (a := v3) (lo := 0) (hi := (i : Int)) (by omega) (by omega)
  omega
 rw [h2, h6, h7, h8, dx];refine find (F := fun j => RI (sb v3 0 i) (.int (j : Nat)) (cl v3 i 0) (cl v3 i 1) (.int n2) (cl v3 i 3) (cl v3 i 4) (cl v3 i 5) (.int n6) (.int n7) (.int n8)) (n := i) (bad := F9 v3 i) (fun j hj => ?_) ?_
 ·show RI (sb v3 0 i) (.int (j : Nat)) (cl v3 i 0) (cl v3 i 1) (.int n2) (cl v3 i 3) (cl v3 i 4) (cl v3 i 5) (.int n6) (.int n7) (.int n8) = _;rw [YE, hl, ifT (by omega), ifF (by omega), CZ (by omega)]
  simp only [KA (a := v3) (i := i) (j := j) (by omega) hj]
  have e : (D.strEq (cl v3 i 0) (cl v3 j 0) && (D.strEq (cl v3 i 1) (cl v3 j 1) && (decide (n2 = (cl v3 j 2).toInt) && (D.strEq (cl v3 i 3) (cl v3 j 3) && (D.strEq (cl v3 i 4) (cl v3 j 4) && (D.strEq (cl v3 i 5) (cl v3 j 5) && (decide (n6 = (cl v3 j 6).toInt) && (decide (n7 = (cl v3 j 7).toInt) && decide (n8 = (cl v3 j 8).toInt))))))))) = F9 v3 i j := by
   unfold F9;rw [h2, h6, h7, h8];simp only [Az];rw [Bn (a := cl v3 i 0), Bn (a := cl v3 i 1), Bn (a := cl v3 i 3), Bn (a := cl v3 i 4), Bn (a := cl v3 i 5)];rw [Rb (x := n2), Rb (x := n6), Rb (x := n7), Rb (x := n8)];rfl
  rw [e]
 ·show RI (sb v3 0 i) (.int (i : Nat)) (cl v3 i 0) (cl v3 i 1) (.int n2) (cl v3 i 3) (cl v3 i 4) (cl v3 i 5) (.int n6) (.int n7) (.int n8) = _;rw [YE, hl, ifF (by omega)]
theorem V1 (hs : G3 v3) (hn : len v3 < 1000) (hn1 : len v1 < 1000) (hn2 : len v2 < 1000) {i : Nat} (hi : i < len v3) : G6 (.int (len v3 : Nat)) (.int (i : Nat)) v0 v1 v2 v3 = cond (Le v0 v1 v2 v3 i) (.row [.int 1, .int (i : Nat)]) (G6 (.int (len v3 : Nat)) (.int (i + 1 : Nat)) v0 v1 v2 v3) := by
 obtain ⟨n, h6, hd⟩ := Yr hs hn hi;obtain ⟨_, _, _, _, h3, h4⟩ := hs i hi;rw [aN (h0 := rfl) (h1 := rfl) (h2 := rfl), ifT (by omega), ifF (by omega), ifT (by omega)]
 have a1 := LT (l := v1) (key := cl v3 i 0);have a2 := LT (l := v2) (key := cl v3 i 5);have d1 : decide ((A1 (cl v3 i 3) : Int) < 4611686018427387904) = true := decide_eq_true (by omega)
 have d2 : decide ((A1 (cl v3 i 4) : Int) < 4611686018427387904) = true := decide_eq_true (by omega)
 have d3 : decide ((len v3 : Int) < i) = false := decide_eq_false (by omega)
 simp only [h6, hd, Qu, WP (v0 := v2) (by omega), Wm (v0 := v1) (by omega), Bt, Bs, Az, A9, decide_true, cond_true, cond_false, CZ (i := i) (by omega), decide_eq_true a1, decide_eq_true a2, d1, d2, d3, PZ]
 unfold Le WS;generalize G6 (.int (len v3 : Nat)) (.int (i + 1 : Nat)) v0 v1 v2 v3 = X;generalize hY : (D.row [.int 1, .int (i : Nat)]) = Y;cases decide (fd v1 (cl v3 i 0) < 0) <;> cases decide (fd v1 (cl v3 i 1) < 0) <;> cases dup v3 i <;> simp only [cond_true, cond_false, Bool.true_or, Bool.false_or, Bool.not_true, Bool.not_false, Bool.cond_self]
 unfold Yh;by_cases k1 : (cl v3 i 2).toInt = 1
 ·simp only [ifT k1];cases nm (cl v3 i 3) <;> cases nm (cl v3 i 4) <;> cases D.strEq (cl v3 i 4) v0 <;> simp only [cond_true, cond_false, Bool.true_or, Bool.false_or]
  repeat' (refine Mq (fun h => ?_) (fun h => ?_)) <;> simp only [*, cond_true, cond_false]
 simp only [ifF k1];by_cases k2 : (cl v3 i 2).toInt = 2
 ·simp only [ifT k2];cases nm (cl v3 i 3) <;> cases nm (cl v3 i 4) <;> cases D.strEq (cl v3 i 4) v0 <;> simp only [cond_true, cond_false, Bool.true_or, Bool.false_or]
  repeat' (refine Mq (fun h => ?_) (fun h => ?_)) <;> simp only [*, cond_true, cond_false]
 simp only [ifF k2];by_cases k3 : (cl v3 i 2).toInt = 3
 ·simp only [ifT k3];cases eqC (cl v3 i 3) 0 0 <;> cases eqC (cl v3 i 4) 0 0 <;> cases decide (0 < (cl v1 (fd v1 (cl v3 i 0)) 2).toInt) <;> simp only [cond_true, cond_false, Bool.true_or, Bool.false_or, Bool.and_true, Bool.true_and, Bool.and_false, Bool.false_and, Bool.not_true, Bool.not_false]
  repeat' (refine Mq (fun h => ?_) (fun h => ?_)) <;> simp only [*, cond_true, cond_false]
 simp only [ifF k3];by_cases k4 : (cl v3 i 2).toInt = 4
 ·simp only [ifT k4];cases eqC (cl v3 i 3) 0 0 <;> cases eqC (cl v3 i 4) 0 0 <;> simp only [cond_true, cond_false, Bool.true_or, Bool.false_or, Bool.and_true, Bool.true_and, Bool.and_false, Bool.false_and, Bool.not_true, Bool.not_false]
  repeat' (refine Mq (fun h => ?_) (fun h => ?_)) <;> simp only [*, cond_true, cond_false]
 simp only [ifF k4, cond_true, Bool.true_or]
theorem Zs (hs : G3 v3) (hn : len v3 < 1000) (hn1 : len v1 < 1000) (hn2 : len v2 < 1000) (v0 : D) : Tz (.int (len v3 : Nat)) (.int 0) (.int 80) v0 v1 v2 v3 = .row [.int 1, .int (cond (decide (80 < (len v3 : Int))) 80 (fdG (Le v0 v1 v2 v3) (len v3) 0))] := by
 rw [dJ, ifF (by omega)]
 by_cases c : 80 < (len v3 : Int)
 ·rw [ifT c, ifT c]
 rw [ifF c, ifF c];refine find (F := fun i => G6 (.int (len v3 : Nat)) (.int (i : Nat)) v0 v1 v2 v3) (n := len v3) (bad := Le v0 v1 v2 v3) (fun j hj => V1 hs hn hn1 hn2 hj) ?_
 show G6 _ (.int (len v3 : Nat)) _ _ _ _ = _;rw [aN (h0 := rfl) (h1 := rfl) (h2 := rfl), ifF (by omega)]
end
end Mr
namespace Mr
open Go Go.AE
section
variable [Ao]
variable {v0 v1 v2 v3 : D}
def OP (v2 : D) : Int := cond (decide (4 < (len v2 : Int))) 4 (fdG (Rr v2) (len v2) 0)
def OS (v1 : D) : Int := cond (decide ((len v1 : Int) < 1)) 0 (cond (decide (24 < (len v1 : Int))) 24 (fdG (N2 v1) (len v1) 0))
def OY (v0 v1 v2 v3 : D) : Int := cond (decide (80 < (len v3 : Int))) 80 (fdG (Le v0 v1 v2 v3) (len v3) 0)
def rok (v0 v1 v2 v3 : D) : Bool := nm v0 && (decide (OP v2 < 0) && (decide (OS v1 < 0) && decide (OY v0 v1 v2 v3 < 0)))
end
end Mr
namespace Mr
open Go Go.AE
section
variable [Ao]
variable {v0 v1 v2 v3 : D}
def JY (v0 v1 v2 v3 : D) : Int := cond (nm v0) (cond (decide (OP v2 < 0)) (cond (decide (OS v1 < 0)) (cond (decide (OY v0 v1 v2 v3 < 0)) 0 293) 292) 291) 290
theorem UF : decide (JY v0 v1 v2 v3 = 0) = rok v0 v1 v2 v3 := by
 unfold JY rok;cases nm v0
 ·rfl
 cases decide (OP v2 < 0)
 ·rfl
 cases decide (OS v1 < 0)
 ·rfl
 cases decide (OY v0 v1 v2 v3 < 0) <;> rfl
theorem Ws (hs : G3 v3) (hn : len v3 < 1000) (hn1 : len v1 < 1000) (hn2 : len v2 < 1000) (v0 : D) : ∃ a, Ub v0 v1 v2 v3 = .row [.int 1, .int a, .int (JY v0 v1 v2 v3)] := by
 rw [dG];simp only [Qu, YK hn2, cB hn1, Zs hs hn hn1 hn2, Bt, Bs, Az, A9, decide_true, cond_true];unfold JY;cases nm v0
 ·exact ⟨_, rfl⟩
 simp only [cond_true];by_cases c1 : OP v2 < 0;rotate_left
 ·have c1' := c1;unfold OP at c1;rw [ifF c1, ifF c1'];exact ⟨_, rfl⟩
 rw [ifT c1];unfold OP at c1;rw [ifT c1];by_cases c2 : OS v1 < 0;rotate_left
 ·have c2' := c2;unfold OS at c2;rw [ifF c2, ifF c2'];exact ⟨_, rfl⟩
 rw [ifT c2];unfold OS at c2;rw [ifT c2];by_cases c3 : OY v0 v1 v2 v3 < 0;rotate_left
 ·have c3' := c3;unfold OY at c3;rw [ifF c3, ifF c3'];exact ⟨_, rfl⟩
 rw [ifT c3];unfold OY at c3;rw [ifT c3];exact ⟨_, rfl⟩
theorem SD {v : D} (h : nm v = true) : 1 ≤ A1 v := by
 rcases Nat.lt_or_ge 0 (A1 v) with q | q
 ·exact q
 unfold nm at h;rw [be, ifT (by omega)] at h
 cases h
end
structure Rk (S C T : D) : Prop where
 s0 : 0 < len S
 s1 : len S < 1000
 c1 : len C ≤ 4
 t1 : len T ≤ 20
 wt : ∀ i : Nat, i < len S → 0 ≤ (cl S i 2).toInt ∧ (cl S i 2).toInt ≤ 1048576
 tmo : ∀ i : Nat, i < len T → (cl T i 2).toInt = 3 → 0 < (cl S (fd S (cl T i 0)) 2).toInt
 sne : ∀ i : Nat, i < len S → eqC (cl S i 0) 0 0 = false
 sid : ∀ i : Nat, i < len S → fd S (cl S i 0) = i
 cid : ∀ i : Nat, i < len C → fd C (cl C i 0) = i
 lim : ∀ i : Nat, i < len C → 1 ≤ (cl C i 1).toInt ∧ (cl C i 1).toInt ≤ 1000
 cne : ∀ i : Nat, i < len C → eqC (cl C i 0) 0 0 = false
 cI : ∀ i : Nat, i < len C → ∃ m, cl C i 1 = .int m
 tI : G3 T
 frm : ∀ i : Nat, i < len T → 0 ≤ fd S (cl T i 0)
 to : ∀ i : Nat, i < len T → 0 ≤ fd S (cl T i 1)
 ctr : ∀ i : Nat, i < len T → (eqC (cl T i 5) 0 0 = true ∧ fd C (cl T i 5) = -1) ∨ (eqC (cl T i 5) 0 0 = false ∧ 0 ≤ fd C (cl T i 5) ∧ 0 ≤ (cl T i 6).toInt ∧ (cl T i 6).toInt ≤ (cl T i 7).toInt ∧
  (cl T i 7).toInt ≤ (cl C (fd C (cl T i 5)) 1).toInt ∧ -1000 ≤ (cl T i 8).toInt ∧ (cl T i 8).toInt ≤ 1000 ∧ 0 ≤ (cl T i 6).toInt + (cl T i 8).toInt ∧ (cl T i 7).toInt + (cl T i 8).toInt ≤ (cl C (fd C (cl T i 5)) 1).toInt)
section
variable [Ao]
theorem Yk {v0 S C T : D} (h : rok v0 S C T = true) (hc : ∀ i : Nat, i < len C → ∃ m, cl C i 1 = .int m) (ht : G3 T) (hS : len S ≤ 8) (hT : len T ≤ 20) : Rk S C T := by
 unfold rok at h;simp only [Bool.and_eq_true] at h;obtain ⟨_, h1, h2, h3⟩ := h;unfold OP at h1;unfold OS at h2;unfold OY at h3;by_cases c1 : 4 < (len C : Int)
 ·rw [ifT c1] at h1; cases h1
 rw [ifF c1] at h1;by_cases c2 : (len S : Int) < 1
 ·rw [ifT c2] at h2; cases h2
 rw [ifF c2, ifF (by omega)] at h2
 rw [ifF (by omega)] at h3
 have B1 : ∀ i, i < len C → Rr C i = false := fun i hi => Na (k := len C) (i := 0) (by omega) (.inr ⟨dT h1, by omega⟩)
 have B2 : ∀ i, i < len S → N2 S i = false := fun i hi => Na (k := len S) (i := 0) (by omega) (.inr ⟨dT h2, by omega⟩)
 have B3 : ∀ i, i < len T → Le v0 S C T i = false := fun i hi => Na (k := len T) (i := 0) (by omega) (.inr ⟨dT h3, by omega⟩)
 have E1 : ∀ i, i < len C → nm (cl C i 0) = true ∧ fd C (cl C i 0) = i ∧ 1 ≤ (cl C i 1).toInt ∧ (cl C i 1).toInt ≤ 1000 := fun i hi => by
  have b := B1 i hi;unfold Rr at b;simp only [Bool.or_eq_false_iff, Bool.not_eq_false'] at b;have s := Qm hi;have b2 := dF b.1.1.2;have b3 := dF b.1.2;have b4 := dF b.2;exact ⟨b.1.1.1, by omega, by omega, by omega⟩
 have ne : ∀ i, i < len C → eqC (cl C i 0) 0 0 = false := fun i hi => by
  rw [D6];have := SD (E1 i hi).1;exact decide_eq_false (by omega)
 refine ⟨by omega, by omega, by omega, hT, fun i hi => ?_, fun i hi h3 => ?_, fun i hi => ?_, fun i hi => ?_, fun i hi => (E1 i hi).2.1, fun i hi => (E1 i hi).2.2, ne, hc, ht, fun i hi => ?_, fun i hi => ?_, fun i hi => ?_⟩
 ·have b := B2 i hi;unfold N2 at b;simp only [Bool.or_eq_false_iff] at b;have b2 := dF b.1.2;have b3 := dF b.2;omega
 ·have b := B3 i hi;unfold Le at b;simp only [Bool.or_eq_false_iff] at b;have b := b.2.2.2.1;unfold WS at b;rw [ifF (by omega), ifF (by omega), ifT h3] at b
  cases q1 : eqC (cl T i 3) 0 0
  ·rw [q1] at b; cases b
  cases q2 : eqC (cl T i 4) 0 0
  ·rw [q1, q2] at b; cases b
  rw [q1, q2] at b;simp only [cond_true, Bool.not_eq_false'] at b;exact dT b
 ·have b := B2 i hi;unfold N2 at b;simp only [Bool.or_eq_false_iff, Bool.not_eq_false'] at b;rw [D6];have := SD b.1.1.1;exact decide_eq_false (by omega)
 ·have b := B2 i hi;unfold N2 at b;simp only [Bool.or_eq_false_iff] at b;have s := Qm hi;have b2 := dF b.1.1.2;omega
 ·have b := B3 i hi;unfold Le at b;simp only [Bool.or_eq_false_iff] at b;exact Int.not_lt.1 (dF b.1)
 ·have b := B3 i hi;unfold Le at b;simp only [Bool.or_eq_false_iff] at b;exact Int.not_lt.1 (dF b.2.1)
 ·have b := B3 i hi;unfold Le at b;simp only [Bool.or_eq_false_iff] at b;have b := b.2.2.2.2;unfold Yh at b;cases hz : eqC (cl T i 5) 0 0
  ·right;rw [hz] at b;simp only [cond_false] at b;by_cases d1 : fd C (cl T i 5) < 0
   ·rw [ifT d1] at b; cases b
   rw [ifF d1] at b;by_cases d2 : (cl T i 6).toInt < 0
   ·rw [ifT d2] at b; cases b
   rw [ifF d2] at b;by_cases d3 : (cl T i 7).toInt < (cl T i 6).toInt
   ·rw [ifT d3] at b; cases b
   rw [ifF d3] at b;by_cases d4 : (cl T i 8).toInt < -1000
   ·rw [ifT d4] at b; cases b
   rw [ifF d4] at b;by_cases d5 : 1000 < (cl T i 8).toInt
   ·rw [ifT d5] at b; cases b
   rw [ifF d5] at b;by_cases d6 : (cl C (fd C (cl T i 5)) 1).toInt < (cl T i 7).toInt
   ·rw [ifT d6] at b; cases b
   rw [ifF d6] at b;have lt := LT (l := C) (key := cl T i 5);have l := E1 (fd C (cl T i 5)).toNat (by omega)
   rw [show (((fd C (cl T i 5)).toNat : Nat) : Int) = fd C (cl T i 5) by omega] at l
   rw [AT (by omega) (by omega), AT (by omega) (by omega)] at b
   by_cases d7 : (cl T i 6).toInt + (cl T i 8).toInt < 0
   ·rw [ifT d7] at b; cases b
   rw [ifF d7] at b;by_cases d8 : (cl C (fd C (cl T i 5)) 1).toInt < (cl T i 7).toInt + (cl T i 8).toInt
   ·rw [ifT d8] at b; cases b
   exact ⟨rfl, by omega, by omega, by omega, by omega, by omega, by omega, by omega, by omega⟩
  ·left;refine ⟨rfl, ?_⟩;rcases YD (l := C) (key := cl T i 5) with g | g
   ·exact g
   exfalso
   have lt := LT (l := C) (key := cl T i 5);have s := Wy g
   have e : eqC (cl C (fd C (cl T i 5)) 0) 0 0 = eqC (cl T i 5) 0 0 := by
    rw [D6, D6];unfold A1;rw [DS.1 s]
   have l := ne (fd C (cl T i 5)).toNat (by omega)
   rw [show (((fd C (cl T i 5)).toNat : Nat) : Int) = fd C (cl T i 5) by omega] at l
   rw [e, hz] at l;cases l
end
end Mr
namespace Mr
open Go Go.AE
def In2 (h : D) (x y : Int) : Prop := ∃ j : Nat, j < len h ∧ (cl h j 0).toInt = x ∧ (cl h j 1).toInt = y
def swp (h : D) (a b : Int) : D := upd (upd (upd (upd h a 0 (cl h b 0)) a 1 (cl h b 1)) b 0 (cl h a 0)) b 1 (cl h a 1)
theorem Gn {h : D} {a b : Int} : len (swp h a b) = len h := by unfold swp; simp only [DF]
theorem Ta {h : D} {a b : Int} (w : Wd h 2) : Wd (swp h a b) 2 := by unfold swp; exact DY (DY (DY (DY w)))
theorem TP {h : D} {a b k : Int} {c : Nat} (w : Wd h 2) (a0 : 0 ≤ a) (a1 : a < len h) (b0 : 0 ≤ b) (b1 : b < len h) (k0 : 0 ≤ k) (hc : c < 2) : cl (swp h a b) k c = if k = b then cl h a c else if k = a then cl h b c else cl h k c := by
 have w1 : Wd (upd h a 0 (cl h b 0)) 2 := DY w;have w2 : Wd (upd (upd h a 0 (cl h b 0)) a 1 (cl h b 1)) 2 := DY w1;have w3 : Wd (upd (upd (upd h a 0 (cl h b 0)) a 1 (cl h b 1)) b 0 (cl h a 0)) 2 := DY w2;unfold swp;rw [Eu w3 (by omega) b0 (by simp only [DF]; exact b1) k0, Eu w2 (by omega) b0 (by simp only [DF]; exact b1) k0, Eu w1 (by omega) a0 (by simp only [DF]; exact a1) k0, Eu w (by omega) a0 a1 k0]
 match c, hc with
 | 0, _ =>
  by_cases q : k = b
  ·rw [if_neg (by omega), if_pos ⟨q, rfl⟩, if_pos q]
  ·rw [if_neg (by omega), if_neg (fun c => q c.1), if_neg (by omega), if_neg q]
   by_cases r : k = a
   ·rw [if_pos ⟨r, rfl⟩, if_pos r]
   ·rw [if_neg (fun c => r c.1), if_neg r]
 | 1, _ =>
  by_cases q : k = b
  ·rw [if_pos ⟨q, rfl⟩, if_pos q]
  ·rw [if_neg (fun c => q c.1), if_neg (by omega), if_neg q]
   by_cases r : k = a
   ·rw [if_pos ⟨r, rfl⟩, if_pos r]
   ·rw [if_neg (fun c => r c.1), if_neg (by omega), if_neg r]
theorem Uh {h : D} {a b : Nat} {x y : Int} (w : Wd h 2) (a1 : a < len h) (b1 : b < len h) (hi : In2 h x y) : In2 (swp h a b) x y := by
 obtain ⟨j, j1, e0, e1⟩ := hi;have C : ∀ (k : Nat) (c : Nat), c < 2 → cl (swp h a b) k c = if (k : Int) = b then cl h a c else if (k : Int) = a then cl h b c else cl h k c := fun k c hc => TP w (by omega) (by omega) (by omega) (by omega) (by omega) hc
 by_cases q : j = a
 ·subst q;exact ⟨b, by rw [Gn]; exact b1, by rw [C b 0 (by omega), if_pos rfl]; exact e0, by rw [C b 1 (by omega), if_pos rfl]; exact e1⟩
 by_cases r : j = b
 ·subst r;refine ⟨a, by rw [Gn]; exact a1, ?_, ?_⟩
  ·rw [C a 0 (by omega), if_neg (by omega), if_pos rfl]; exact e0
  ·rw [C a 1 (by omega), if_neg (by omega), if_pos rfl]; exact e1
 refine ⟨j, by rw [Gn]; exact j1, ?_, ?_⟩
 ·rw [C j 0 (by omega), if_neg (by omega), if_neg (by omega)]; exact e0
 ·rw [C j 1 (by omega), if_neg (by omega), if_neg (by omega)]; exact e1
def DQ (h : D) : Prop := ∀ j : Nat, j < len h → ∃ x y, cl h j 0 = .int x ∧ cl h j 1 = .int y
theorem Rj {h : D} {a b : Nat} (w : Wd h 2) (a1 : a < len h) (b1 : b < len h) (hi : DQ h) : DQ (swp h a b) := by
 have C : ∀ (k : Nat) (c : Nat), c < 2 → cl (swp h a b) k c = if (k : Int) = b then cl h a c else if (k : Int) = a then cl h b c else cl h k c := fun k c hc => TP w (by omega) (by omega) (by omega) (by omega) (by omega) hc
 intro j j1;rw [Gn] at j1;rw [C j 0 (by omega), C j 1 (by omega)]
 by_cases q : (j : Int) = b
 ·simp only [if_pos q]; exact hi a a1
 ·simp only [if_neg q];by_cases r : (j : Int) = a
  ·simp only [if_pos r]; exact hi b b1
  ·simp only [if_neg r]; exact hi j j1
theorem Ya {h : D} {x y : Int} (hi : DQ h) : DQ (ad h (.row [.int x, .int y])) := by
 intro j j1;rw [BD] at j1;rw [BW (by omega), BW (by omega)]
 by_cases q : (j : Int) = len h
 ·simp only [if_pos q]; exact ⟨x, y, rfl, rfl⟩
 ·simp only [if_neg q]; exact hi j (by omega)
theorem cA {a : D} {lo hi : Int} {n : Nat} (h : Wd a n) : Wd (sb a lo hi) n := fun r hr => h r (List.mem_of_mem_drop (List.mem_of_mem_take hr))
theorem w1 : IntKind.wrap .i64 (0 + 1) = 1 := rfl
theorem w2 : IntKind.wrap .i64 (1 + 1) = 2 := rfl
theorem Vj {x : Int} (h0 : 0 ≤ x) (h1 : x < 4611686018427387904) : ari .quo .i64 x 2 = x / 2 := by
 have e : ari .quo .i64 x 2 = IntKind.wrap .i64 (x.tdiv 2) := by unfold ari; rfl
 rw [e, Int.tdiv_eq_ediv_of_nonneg h0, AT (by omega) (by omega)]
section
variable [Ao]
theorem WR {n i l c1 c2 : Nat} {v4 : Int} {v5 h v8 : D} {b : Bool} (hn : len h = n) (hl : l < n ∨ c2 ≥ n) : ∃ l' : Nat, (l' = l ∨ l' = c2 ∧ c2 < n) ∧ Bz (.int n) (.int i) (.int l) (.int 1) (.int v4) v5 h (.bool b) v8 (.int c1) (.int c2) = Bz (.int n) (.int i) (.int l') (.int 2) (.int v4) v5 h (.bool b) v8 (.int c1) (.int c2) := by
 rw [QK, ifT (by omega), ifF (by omega), ifT rfl]
 by_cases q : c2 < n
 ·rw [ifT (by omega), ifF (by omega), ifT (by omega), ifF (by omega), ifT (by omega), w2]
  cases decide ((cl h c2 0).toInt < (cl h l 0).toInt) <;> cases decide ((cl h c2 1).toInt < (cl h l 1).toInt) <;> cases decide ((cl h l 1).toInt < (cl h c2 1).toInt) <;> cases decide ((cl h l 0).toInt < (cl h c2 0).toInt) <;>
   first | exact ⟨l, .inl rfl, rfl⟩ | exact ⟨c2, .inr ⟨rfl, q⟩, rfl⟩
 ·rw [ifF (by omega), w2]
  exact ⟨l, .inl rfl, rfl⟩
theorem Wj {n i l c1 c2 : Nat} {v4 : Int} {v5 h v8 : D} {b : Bool} (hn : len h = n) (hl : l < n ∨ c1 ≥ n) : ∃ l' : Nat, (l' = l ∨ l' = c1 ∧ c1 < n) ∧ Bz (.int n) (.int i) (.int l) (.int 0) (.int v4) v5 h (.bool b) v8 (.int c1) (.int c2) = Bz (.int n) (.int i) (.int l') (.int 1) (.int v4) v5 h (.bool b) v8 (.int c1) (.int c2) := by
 rw [QK, ifT (by omega), ifT rfl]
 by_cases q : c1 < n
 ·rw [ifT (by omega), ifF (by omega), ifT (by omega), ifF (by omega), ifT (by omega), w1]
  cases decide ((cl h c1 0).toInt < (cl h l 0).toInt) <;> cases decide ((cl h c1 1).toInt < (cl h l 1).toInt) <;> cases decide ((cl h l 1).toInt < (cl h c1 1).toInt) <;> cases decide ((cl h l 0).toInt < (cl h c1 0).toInt) <;>
   first | exact ⟨l, .inl rfl, rfl⟩ | exact ⟨c1, .inr ⟨rfl, q⟩, rfl⟩
 ·rw [ifF (by omega), w1]
  exact ⟨l, .inl rfl, rfl⟩
theorem SQ {n : Nat} (hn : n < 1000000) {v2 : Int} {v3 v6 : D} {b : Bool} : ∀ (k i : Nat) (h : D), n ≤ i + k → i ≤ n → len h = n → Wd h 2 → ∃ h', Rm (.int n) (.int i) (.int v2) v3 h (.bool b) v6 = .row [.int 1, h', .bool b] ∧ Wd h' 2 ∧ len h' = n ∧ (DQ h → DQ h') ∧ ∀ x y, In2 h x y → In2 h' x y := by
 intro k
 induction k with
 | zero =>
  intro i h hk hi hl w;have : i = n := by omega
  subst this;rw [Wr, AT (a := 2 * (i : Int)) (by omega) (by omega), AT (by omega) (by omega), AT (by omega) (by omega)]
  obtain ⟨l1, c1, q1⟩ := Wj (n := i) (i := i) (l := i) (c1 := 2 * i + 1) (c2 := 2 * i + 2) (v4 := v2) (v5 := v3) (h := h) (v8 := v6) (b := b) hl (.inr (by omega))
  have c1 : l1 = i := by omega
  subst c1;obtain ⟨l2, c2, q2⟩ := WR (n := l1) (i := l1) (l := l1) (c1 := 2 * l1 + 1) (c2 := 2 * l1 + 2) (v4 := v2) (v5 := v3) (h := h) (v8 := v6) (b := b) hl (.inr (by omega))
  have c2 : l2 = l1 := by omega
  subst c2;have E := q1.trans q2;refine ⟨h, ?_, w, hl, id, fun _ _ q => q⟩
  show Bz (.int (l2 : Nat)) (.int (l2 : Nat)) (.int (l2 : Nat)) (.int 0) (.int v2) v3 h (.bool b) v6 (.int ((2 * l2 + 1 : Nat) : Int)) (.int ((2 * l2 + 2 : Nat) : Int)) = _;rw [E, QK, ifF (by omega), ifT rfl]
 | succ k ih =>
  intro i h hk hi hl w;rw [Wr, AT (a := 2 * (i : Int)) (by omega) (by omega), AT (by omega) (by omega), AT (by omega) (by omega)]
  obtain ⟨l1, c1, q1⟩ := Wj (n := n) (i := i) (l := i) (c1 := 2 * i + 1) (c2 := 2 * i + 2) (v4 := v2) (v5 := v3) (h := h) (v8 := v6) (b := b) hl (by omega)
  obtain ⟨l2, c2, q2⟩ := WR (n := n) (i := i) (l := l1) (c1 := 2 * i + 1) (c2 := 2 * i + 2) (v4 := v2) (v5 := v3) (h := h) (v8 := v6) (b := b) hl (by omega)
  have E := q1.trans q2;have E' : Bz (.int (n : Nat)) (.int (i : Nat)) (.int (i : Nat)) (.int 0) (.int v2) v3 h (.bool b) v6 (.int (2 * (i : Int) + 1)) (.int (2 * (i : Int) + 2)) = Bz (.int (n : Nat)) (.int (i : Nat)) (.int (l2 : Nat)) (.int 2) (.int v2) v3 h (.bool b) v6 (.int (2 * i + 1 : Nat)) (.int (2 * i + 2 : Nat)) := E;rw [E', QK, ifF (by omega)]
  by_cases q : l2 = i
  ·rw [ifT (by omega)]
   exact ⟨h, rfl, w, hl, id, fun _ _ q => q⟩
  ·rw [ifF (by omega), ifF (by omega), ifT (by omega), ifF (by omega), ifT (by omega)]
   obtain ⟨h', r1, r2, r3, r5, r4⟩ := ih l2 (swp h i l2) (by omega) (by omega) (by rw [Gn]; exact hl) (Ta w)
   exact ⟨h', r1, r2, r3, fun hi => r5 (Rj w (by omega) (by omega) hi), fun x y hi => r4 x y (Uh w (by omega) (by omega) hi)⟩
theorem TG {v0 : Int} {v1 v2 h : D} {b : Bool} (w : Wd h 2) (h0 : 0 < len h) (h1 : len h < 1000000) : ∃ h', FW (.int v0) v1 v2 h (.bool b) = .row [.int 1, h', .bool b] ∧ Wd h' 2 ∧ len h' = len h - 1 ∧ (DQ h → DQ h') ∧ ∀ x y, In2 h x y → ¬ ((cl h 0 0).toInt = x ∧ (cl h 0 1).toInt = y) → In2 h' x y := by
 have e : IntKind.wrap .i64 ((len h : Int) - 1) = ((len h - 1 : Nat) : Int) := by rw [AT (by omega) (by omega)]; omega
 generalize hm : len h - 1 = m at e;rw [br, e, ifF (by omega), ifT (by omega), ifT (by omega), ifF (by simp only [DF]; omega)]
 have wa : Wd (upd h 0 0 (cl h m 0)) 2 := DY w;have wb : Wd (upd (upd h 0 0 (cl h m 0)) 0 1 (cl h m 1)) 2 := DY wa
 have C : ∀ (k c : Nat), c < 2 → cl (upd (upd h 0 0 (cl h m 0)) 0 1 (cl h m 1)) k c = if k = 0 then cl h m c else cl h k c := by
  intro k c hc;rw [Eu wa (by omega) (by omega) (by simp only [DF]; omega) (by omega), Eu w (by omega) (by omega) (by omega) (by omega)]
  match c, hc with
  | 0, _ =>
   by_cases q : k = 0
   ·rw [if_neg (by omega), if_pos (by omega), if_pos q]
   ·rw [if_neg (by omega), if_neg (by omega), if_neg q]
  | 1, _ =>
   by_cases q : k = 0
   ·rw [if_pos (by omega), if_pos q]
   ·rw [if_neg (by omega), if_neg (by omega), if_neg q]
 have lg : len (upd (upd h 0 0 (cl h m 0)) 0 1 (cl h m 1)) = len h := by simp only [DF]
 generalize upd (upd h 0 0 (cl h m 0)) 0 1 (cl h m 1) = g at wb C lg
 have ls : len (sb g 0 m) = m := by
  have := Tg (a := g) (lo := 0) (hi := (m : Int)) (by omega) (by omega)
  omega
 obtain ⟨h', r1, r2, r3, r5, r4⟩ := SQ (n := m) (by omega) (v2 := v0) (v3 := v2) (v6 := v1) (b := b) m 0 (sb g 0 m) (by omega) (by omega) ls (cA wb)
 refine ⟨h', r1, r2, by omega, fun hi => r5 (fun j j1 => ?_), fun x y hi hne => r4 x y ?_⟩
 ·rw [KA (by omega) (by omega), KA (by omega) (by omega), C j 0 (by omega), C j 1 (by omega)]
  by_cases q : j = 0
  ·simp only [if_pos q]; exact hi m (by omega)
  ·simp only [if_neg q]; exact hi j (by omega)
 obtain ⟨j, j1, e0, e1⟩ := hi
 have j0 : j ≠ 0 := fun c => by
  subst c;exact hne ⟨e0, e1⟩
 by_cases q : j = m
 ·subst q;refine ⟨0, by omega, ?_, ?_⟩
  ·rw [KA (by omega) (by omega), C 0 0 (by omega), if_pos rfl]; exact e0
  ·rw [KA (by omega) (by omega), C 0 1 (by omega), if_pos rfl]; exact e1
 ·refine ⟨j, by omega, ?_, ?_⟩
  ·rw [KA (by omega) (by omega), C j 0 (by omega), if_neg j0]; exact e0
  ·rw [KA (by omega) (by omega), C j 1 (by omega), if_neg j0]; exact e1
theorem Wx {h : D} {x y : Int} : (∀ a b, In2 h a b → In2 (ad h (.row [.int x, .int y])) a b) ∧ In2 (ad h (.row [.int x, .int y])) x y := by
 refine ⟨fun a b hi => ?_, len h, by rw [BD]; omega, ?_, ?_⟩
 ·obtain ⟨j, j1, e0, e1⟩ := hi;refine ⟨j, by rw [BD]; omega, ?_, ?_⟩
  ·rw [BW (by omega), if_neg (by omega)]; exact e0
  ·rw [BW (by omega), if_neg (by omega)]; exact e1
 ·rw [BW (by omega), if_pos rfl]; rfl
 ·rw [BW (by omega), if_pos rfl]; rfl
theorem S5 {n : Nat} (hn : n < 1000000) {t : Int} {v2 v4 : D} {b : Bool} : ∀ (k i : Nat) (h : D), i ≤ k → i < n → len h = n → Wd h 2 → ∃ h', Jb (.int i) (.int t) v2 h (.bool b) v4 = .row [.int 1, h', .bool b] ∧ Wd h' 2 ∧ len h' = n ∧ (DQ h → DQ h') ∧ ∀ x y, In2 h x y → In2 h' x y := by
 intro k
 induction k with
 | zero =>
  intro i h hk hi hl w;have : i = 0 := by omega
  subst this;rw [WG, ifF (by omega)]
  exact ⟨h, rfl, w, hl, id, fun _ _ q => q⟩
 | succ k ih =>
  intro i h hk hi hl w;rw [WG];by_cases q : 0 < (i : Int)
  ·have e : ari .quo .i64 (IntKind.wrap .i64 ((i : Int) - 1)) 2 = (((i - 1) / 2 : Nat) : Int) := by
    rw [AT (by omega) (by omega), Vj (by omega) (by omega)]; omega
   rw [e];generalize hu : (i - 1) / 2 = u
   have R : ∃ h', Jb (.int u) (.int t) v2 (swp h u i) (.bool b) v4 = .row [.int 1, h', .bool b] ∧ Wd h' 2 ∧ len h' = n ∧ (DQ h → DQ h') ∧ ∀ x y, In2 h x y → In2 h' x y := by
    obtain ⟨h', r1, r2, r3, r5, r4⟩ := ih u (swp h u i) (by omega) (by omega) (by rw [Gn]; exact hl) (Ta w)
    exact ⟨h', r1, r2, r3, fun hi => r5 (Rj w (by omega) (by omega) hi), fun x y hi => r4 x y (Uh w (by omega) (by omega) hi)⟩
   have S : ∃ h', D.row [.int 1, h, .bool b] = .row [.int 1, h', .bool b] ∧ Wd h' 2 ∧ len h' = n ∧ (DQ h → DQ h') ∧ ∀ x y, In2 h x y → In2 h' x y := ⟨h, rfl, w, hl, id, fun _ _ q => q⟩
   rw [ifT q, ifF (by omega), ifT (by omega), ifT (by omega)]
   cases decide ((cl h u 0).toInt < (cl h i 0).toInt) <;> cases decide ((cl h u 1).toInt < (cl h i 1).toInt) <;> cases decide ((cl h i 1).toInt < (cl h u 1).toInt) <;> cases decide ((cl h i 0).toInt < (cl h u 0).toInt) <;> first | exact S | exact R
  ·rw [ifF q];exact ⟨h, rfl, w, hl, id, fun _ _ q => q⟩
theorem WW {t x y : Int} {v1 v2 : D} {h : D} {b : Bool} (w : Wd h 2) (h1 : len h < 1000) : ∃ h', Ef (.int t) v1 v2 h (.bool b) (.int x) (.int y) = .row [.int 1, h', .bool false] ∧ Wd h' 2 ∧ len h' = len h + 1 ∧ (DQ h → DQ h') ∧ (∀ a b, In2 h a b → In2 h' a b) ∧ In2 h' x y := by
 have e : IntKind.wrap .i64 ((len (ad h (.row [.int x, .int y])) : Int) - 1) = ((len h : Nat) : Int) := by rw [BD, AT (by omega) (by omega)]; omega
 rw [YP, ifT (by omega), e]
 have hw : Wd (ad h (.row [.int x, .int y])) 2 := Uz w rfl;obtain ⟨h', r1, r2, r3, r5, r4⟩ := S5 (n := len h + 1) (by omega) (t := t) (v2 := v2) (v4 := v1) (b := false) (len h) (len h) (ad h (.row [.int x, .int y])) (by omega) (by omega) (by rw [BD]) hw
 exact ⟨h', r1, r2, by omega, fun hi => r5 (Ya hi), fun a b hi => r4 a b (Wx.1 a b hi), r4 x y Wx.2⟩
end
end Mr
namespace Mr
open Go Go.AE
def Dm (due dn : D) : Option Int → Prop
 | none => due.rows = []
 | some d => due.rows = [.row [.int 0, .int d]] ∧ dn.toBool = false
structure CK (due dn hp : D) (b : Bool) (o : Option Int) : Prop where
 dm : Dm due dn o
 wd : Wd hp 2
 al : DQ hp
 nl : b = true → len hp = 0
 inn : ∀ d, o = some d → In2 hp d 0
theorem Hz {a k : D} (h : a.rows = []) : mIx [.int .i64] a k = -1 := by unfold mIx; rw [h]; rfl
theorem N7 {a k : D} {d : Int} (h : a.rows = [.row [.int 0, .int d]]) : mIx [.int .i64] a (.row [k]) = if k.toInt = 0 then 0 else -1 := by
 unfold mIx;rw [h]
 show (match ((0 : Int) == k.toInt) && true with
  | true => ((0 : Nat) : Int)
  | false => -1) = _
 by_cases q : k.toInt = 0
 ·rw [if_pos q, q]; rfl
 ·rw [if_neg q]
  have : ((0 : Int) == k.toInt) = false := by
   cases e : ((0 : Int) == k.toInt) with
   | false => rfl
   | true => exact absurd (eq_of_beq e).symm q
  rw [this]; rfl
theorem HG {a : D} {d : Int} (h : a.rows = [.row [.int 0, .int d]]) : mIx [.int .i64] a (.row [.int 0]) = 0 := (N7 h).trans (if_pos rfl)
theorem SG {a : D} {d t : Int} (h : a.rows = [.row [.int 0, .int d]]) (ht : t ≠ 0) : mIx [.int .i64] a (.row [.int t]) = -1 := (N7 h).trans (if_neg ht)
theorem Ns {a : D} {d : Int} (h : a.rows = [.row [.int 0, .int d]]) : cl a 0 1 = .int d := by
 unfold cl; rw [h]; rfl
theorem Kl {a : D} {d : Int} (h : a.rows = [.row [.int 0, .int d]]) : (Je a 0).rows = [] := by
 show a.rows.eraseIdx 0 = [];rw [h]; rfl
section
variable [Ao]
variable {due dn : D}
theorem KE {v0 : Int} (hd : due.rows = []) : ∀ (k : Nat) (hp : D) (b : Bool), len hp = k → k < 100000 → Wd hp 2 → DQ hp → (b = true → len hp = 0) → ∃ hp', I6 (.int v0) dn hp (.bool b) due = .row [.int 1, .int 0, .int 0, .bool false, hp', .bool b] ∧ Wd hp' 2 ∧ DQ hp' ∧ (b = true → len hp' = 0) ∧ len hp' ≤ k := by
 intro k
 induction k with
 | zero =>
  intro hp b hl hk w a n;rw [Ue, ifF (by omega)]
  exact ⟨hp, rfl, w, a, n, by omega⟩
 | succ k ih =>
  intro hp b hl hk w a n;obtain ⟨h', q1, q2, q3, q4, _⟩ := TG (v0 := v0) (v1 := due) (v2 := dn) (b := b) w (by omega) (by omega)
  have hb : b = false := by
   cases b with
   | false => rfl
   | true => have := n rfl; omega
  obtain ⟨h2, r1, r2, r3, r4, r5⟩ := ih h' b (by omega) (by omega) q2 (q4 a) (fun c => by rw [hb] at c; cases c)
  rw [Ue, ifT (by omega)]
  simp only [q1, Hz hd, Bt, Bs, Az, A9, decide_true, cond_true, r1];refine ⟨h2, ?_, r2, r3, r4, by omega⟩
  cases dn.toBool <;> rfl
theorem P7 {v0 d : Int} (hd : due.rows = [.row [.int 0, .int d]]) (hn : dn.toBool = false) : ∀ (k : Nat) (hp : D) (b : Bool), len hp = k → k < 100000 → Wd hp 2 → DQ hp → (b = true → len hp = 0) → In2 hp d 0 → ∃ hp', I6 (.int v0) dn hp (.bool b) due = .row [.int 1, .int d, .int 0, .bool true, hp', .bool b] ∧ Wd hp' 2 ∧ DQ hp' ∧ (b = true → len hp' = 0) ∧ len hp' ≤ k ∧ In2 hp' d 0 := by
 intro k
 induction k with
 | zero =>
  intro hp b hl hk w a n i;obtain ⟨j, j1, _⟩ := i;omega
 | succ k ih =>
  intro hp b hl hk w a n i;obtain ⟨h', q1, q2, q3, q4, q5⟩ := TG (v0 := v0) (v1 := due) (v2 := dn) (b := b) w (by omega) (by omega)
  have hb : b = false := by
   cases b with
   | false => rfl
   | true => have := n rfl; omega
  obtain ⟨x, t, ex, et⟩ := a 0 (by omega)
  have ex : cl hp 0 0 = .int x := ex;have et : cl hp 0 1 = .int t := et
  have step : ¬ (x = d ∧ t = 0) → ∃ hp', I6 (.int v0) dn h' (.bool b) due = .row [.int 1, .int d, .int 0, .bool true, hp', .bool b] ∧ Wd hp' 2 ∧ DQ hp' ∧ (b = true → len hp' = 0) ∧ len hp' ≤ k + 1 ∧ In2 hp' d 0 := fun hne => by
   obtain ⟨h2, r1, r2, r3, r4, r5, r6⟩ := ih h' b (by omega) (by omega) q2 (q4 a) (fun c => by rw [hb] at c; cases c) (q5 d 0 i (fun c => by
    rw [ex, et] at c;exact hne c))
   exact ⟨h2, r1, r2, r3, r4, by omega, r6⟩
  rw [Ue, ifT (by omega), hn]
  simp only [q1, et, ex, Bt, Bs, Az, A9, decide_true, cond_true, cond_false];by_cases c : t = 0
  ·subst c;rw [HG hd, ifF (by omega), Ns hd]
   simp only [Az];by_cases e : d = x
   ·subst e;simp only [eq_self, decide_true, cond_true];exact ⟨hp, rfl, w, a, n, by omega, i⟩
   ·simp only [e, decide_false, cond_false];exact step (fun c => e c.1.symm)
  ·rw [SG hd c, ifT (by omega)]
   exact step (fun e => c e.2)
theorem CK.none_of {hp : D} {b : Bool} {o : Option Int} (h : CK due dn hp b o) {due' : D} (hd : due'.rows = []) (dn' : D) : CK due' dn' hp b none := ⟨hd, h.wd, h.al, h.nl, fun d c => by cases c⟩
theorem Xg {hp : D} {b : Bool} {o : Option Int} {now t : Int} (h : CK due dn hp b o) (hl : len hp < 100000) (h0 : now ≤ t) (h1 : t ≤ 1099511627776) :
  ∃ (out : D) (on : Bool) (hp' due' : D), KY (.int now) due dn hp (.bool b) (.int t) = .row [.int 1, out, .bool on, .int 0, .int t, hp', .bool b, due'] ∧ len hp' ≤ len hp ∧
   ((∃ d, o = some d ∧ d ≤ t ∧ decide (0 < (len out : Int)) = true ∧ CK due' dn hp' b none) ∨ ((∀ d, o = some d → t < d) ∧ decide (0 < (len out : Int)) = false ∧ CK due' dn hp' b o)) := by
 have F : ∀ {x : D}, (∃ r, Bo (.int t) due dn hp (.bool b) = r ∧ cond (decide ((sl r 0).toInt = 1)) (KZ AN (.bool true) (sl r 3) (.int t) dn (sl r 4) (sl r 5) due (sl r 1) (sl r 2)) (.row []) = x) → KY (.int now) due dn hp (.bool b) (.int t) = x := by
  intro x hx;obtain ⟨r, r1, r2⟩ := hx;rw [Zi, ifF (by omega)]
  by_cases c : now < t
  ·rw [ifT c, r1]; exact r2
  ·have : now = t := by omega
   subst this;rw [ifF c, r1]; exact r2
 cases o with
 | none =>
  obtain ⟨h2, r1, r2, r3, r4, r5⟩ := KE (dn := dn) (v0 := t) h.dm (len hp) hp b rfl hl h.wd h.al h.nl;refine ⟨AN, true, h2, due, F ⟨_, (Rd ..).trans r1, ?_⟩, r5, .inr ⟨(fun d c => nomatch c), rfl, h.dm, r2, r3, r4, (fun d c => nomatch c)⟩⟩
  simp only [Bt, Bs, Az, decide_true, cond_true];rw [Q2]; rfl
 | some d =>
  obtain ⟨h2, r1, r2, r3, r4, r5, r6⟩ := P7 (v0 := t) h.dm.1 h.dm.2 (len hp) hp b rfl hl h.wd h.al h.nl (h.inn d rfl);by_cases c : t < d
  ·refine ⟨AN, true, h2, due, F ⟨_, (Rd ..).trans r1, ?_⟩, r5, .inr ⟨(fun d' c' => (by cases c'; exact c)), rfl, h.dm, r2, r3, r4, (fun d' c' => (by cases c'; exact r6))⟩⟩
   simp only [Bt, Bs, Az, decide_true, cond_true];rw [Q2, cT rfl, ifT c]
  ·obtain ⟨h3, s1, s2, s3, s4, s5⟩ := KE (due := Je due 0) (dn := dn) (v0 := t) (Kl h.dm.1) (len h2) h2 b rfl (by omega) r2 r3 r4
   refine ⟨ad AN (.row [.int 0]), false, h3, Je due 0, F ⟨_, (Rd ..).trans r1, ?_⟩, by omega, .inl ⟨d, rfl, by omega, by rw [BD]; exact decide_eq_true (by omega), Kl h.dm.1, s2, s3, s4, (fun d' c' => nomatch c')⟩⟩
   simp only [Bt, Bs, Az, decide_true, cond_true];rw [Q2, cT rfl, ifF c, ifT (by rw [CO]; omega), h.dm.2]
   simp only [HG h.dm.1, cond_false];rw [ifF (by omega), Rd, s1]
   simp only [Bt, Bs, Az, decide_true, cond_true];rw [Q2]; rfl
theorem VG {hp : D} {b : Bool} {o : Option Int} {now : Int} (h : CK due dn hp b o) : ∃ (e : Int) (due' : D), Hc (.int now) due dn hp (.bool b) (.int 0) = .row [.int 1, .int e, due'] ∧ CK due' dn hp b none := by
 cases o with
 | none =>
  have hz : due.rows = [] := h.dm
  have g : GC (.int now) due dn hp (.bool b) (.int 0) = .row [.int 1, .int 0, .int 9] := by
   rw [UL, ifF (by omega), ifT (by omega), Hz hz]
   cases dn.toBool
   ·rw [cF rfl, ifT (by omega)]
   ·rfl
  refine ⟨9, due, ?_, h.none_of hz dn⟩;rw [WN, g];rfl
 | some d =>
  have hd := h.dm.1
  have g : GC (.int now) due dn hp (.bool b) (.int 0) = .row [.int 1, .int (IntKind.wrap .i64 (d - now)), .int 0] := by
   rw [UL, ifF (by omega), ifT (by omega), h.dm.2, cF rfl]
   simp only [HG hd];rw [Ns hd]; rfl
  refine ⟨0, Je due 0, ?_, h.none_of (Kl hd) dn⟩;rw [WN, g, h.dm.2, HG hd];rfl
theorem Sx {hp : D} {b : Bool} {now w : Int} (h : CK due dn hp b none) (hl : len hp < 1000) (n0 : 0 ≤ now) (n1 : now ≤ 1099511627776) (w0 : 0 ≤ w) (w1 : w ≤ 1048576) :
  ∃ (e : Int) (dn' hp' due' : D) (b' : Bool), Kv (.int now) due dn hp (.bool b) (.int 0) (.int w) = .row [.int 1, .int e, dn', hp', .bool b', due'] ∧ len hp' ≤ len hp + 1 ∧
   CK due' dn' hp' b' (if now + w ≤ 1099511627776 then some (now + w) else none) := by
 rw [YN, ifF (by omega), ifT (by omega), ifF (by omega), AT (by omega) (by omega)]
 by_cases c : 1099511627776 - now < w
 ·rw [ifT c, if_neg (by omega)]
  exact ⟨3, dn, hp, due, b, rfl, by omega, h⟩
 rw [ifF c, if_pos (by omega), AT (by omega) (by omega), Hz (show due.rows = [] from h.dm)]
 have R : ∀ (due0 dn0 dn1 : D), due0.rows = [] → dn1.toBool = false → ∃ (e : Int) (dn' hp' due' : D) (b' : Bool), cond (decide ((sl (Ef (.int now) (ad due0 (.row [.int 0, .int (now + w)])) dn0 hp (.bool b) (.int (now + w)) (.int 0)) 0).toInt = 1))
   (D.row [.int 1, .int 0, dn1, sl (Ef (.int now) (ad due0 (.row [.int 0, .int (now + w)])) dn0 hp (.bool b) (.int (now + w)) (.int 0)) 1, sl (Ef (.int now) (ad due0 (.row [.int 0, .int (now + w)])) dn0 hp (.bool b) (.int (now + w)) (.int 0)) 2, ad due0 (D.row [.int 0, .int (now + w)])]) (D.row []) = D.row [.int 1, .int e, dn', hp', .bool b', due'] ∧ len hp' ≤ len hp + 1 ∧ CK due' dn' hp' b' (some (now + w)) := by
  intro due0 dn0 dn1 h0 h1;obtain ⟨h', r1, r2, r3, r4, r5, r6⟩ := WW (t := now) (x := now + w) (y := 0) (v1 := ad due0 (.row [.int 0, .int (now + w)])) (v2 := dn0) (b := b) h.wd hl;simp only [r1, Bt, Bs, Az, decide_true, cond_true];refine ⟨0, dn1, h', _, false, rfl, by omega, ⟨?_, h1⟩, r2, r4 h.al, fun c => (by cases c), fun d c => by cases c; exact r6⟩
  show due0.rows ++ [_] = _;rw [h0]; rfl
 cases hd : dn.toBool
 ·rw [cF rfl, ifT (by omega)]
  exact R due dn dn h.dm hd
 ·rw [cT rfl];exact R AZ (.bool false) (.bool false) rfl rfl
theorem Vx {hp : D} {b : Bool} {o : Option Int} {now : Int} (h : CK due dn hp b o) (hl : len hp < 1000) :
  ∃ (dn' hp' due' : D) (b' : Bool), Md (.int now) due dn hp (.bool b) = .row [.int 1, .int now, dn', hp', .bool b', due'] ∧ len hp' = len hp ∧ CK due' dn' hp' b' o := by
 have g : ∃ (hp' : D) (b' : Bool), IS hp (.bool b) = .row [.int 1, hp', .bool b'] ∧ len hp' = len hp ∧ Wd hp' 2 ∧ DQ hp' ∧ (b' = true → len hp' = 0) ∧ ∀ x y, In2 hp x y → In2 hp' x y := by
  rw [cX];cases b with
  | true =>
   have n := h.nl rfl;exact ⟨AN, true, rfl, by rw [n]; rfl, JA, fun j hj => by rw [CO] at hj; omega, fun _ => rfl, fun x y ⟨j, hj, _⟩ => by omega⟩
  | false =>
   rw [cF rfl, ifT (by omega)]
   exact ⟨ct AZ hp, false, rfl, rfl, h.wd, h.al, (fun c => nomatch c), fun x y q => q⟩
 obtain ⟨hp', b', g1, g2, g3, g4, g5, g6⟩ := g;rw [Y2];simp only [g1, Bt, Bs, Az, decide_true, cond_true];cases hd : dn.toBool
 ·exact ⟨.bool false, hp', due, b', rfl, g2, by
   cases o with
   | none => exact h.dm
   | some d => exact ⟨h.dm.1, rfl⟩, g3, g4, g5, fun d c => g6 _ _ (h.inn d c)⟩
 ·refine ⟨.bool true, hp', AZ, b', rfl, g2, ?_, g3, g4, g5, fun d c => g6 _ _ (h.inn d c)⟩
  cases o with
  | none => rfl
  | some d => have := h.dm.2; rw [hd] at this; cases this
end
end Mr
namespace Mr
open Go Go.AE
structure MS where
 b : D
 bn : Bool
 nm : D
 st : D
 stn : Bool
 ct : D
 ctn : Bool
 sp : D
 spn : Bool
 an : D
 af : Bool
 aw : Int
 now : Int
 due : D
 dn : D
 hp : D
 hn : Bool
 ov : Bool
 ev : D
 en : Bool
structure RS where
 at' : D
 ent : Int
 defs : D
 vals : D
 time : Int
 evs : D
structure Bk (b C V : D) : Prop where
 lb : len b = len C
 lv : len V = len C
 wb : Wd b 3
 wv : Wd V 1
 nm : ∀ j : Nat, j < len C → cl b j 0 = cl C j 0
 lm : ∀ j : Nat, j < len C → cl b j 1 = cl C j 1
 vl : ∀ j : Nat, j < len C → ∃ n, cl b j 2 = .int n ∧ cl V j 0 = .int n ∧ 0 ≤ n ∧ n ≤ (cl C j 1).toInt
structure Df (d C : D) : Prop where
 ld : len d = len C
 nm : ∀ j : Nat, j < len C → cl d j 0 = cl C j 0
 lm : ∀ j : Nat, j < len C → cl d j 1 = cl C j 1
theorem Nf {a c : D} (hl : len a = len c) (h : ∀ j : Nat, j < len c → cl a j 0 = cl c j 0) (key : D) : fd a key = fd c key := by
 unfold fd;rw [hl];exact Ik fun j _ hj => by rw [h j (by omega)]
theorem Xj {a x y : D} (h : D.strEq x y = true) : fd a x = fd a y := by
 unfold fd
 exact Ik fun j _ _ => by
  rw [Bn (a := cl a j 0) (b := x), Bn (a := cl a j 0) (b := y)];exact HS h
theorem M5 {a key : D} (h : 0 ≤ fd a key) : (((fd a key).toNat : Nat) : Int) = fd a key ∧ (fd a key).toNat < len a := by
 have := LT (l := a) (key := key);omega
def alw (C V T : D) (k : Nat) : Bool := eqC (cl T k 5) 0 0 || (!decide ((cl V (fd C (cl T k 5)) 0).toInt < (cl T k 6).toInt) && !decide ((cl T k 7).toInt < (cl V (fd C (cl T k 5)) 0).toInt))
def Ej (C V T an : D) (late : Bool) (k : Nat) : Bool := D.strEq (cl T k 0) an && (alw C V T k && (!decide ((cl T k 2).toInt = 3) || late))
section
variable [Ao]
variable {S C T V b d : D} {bn : Bool}
theorem M0 (hn : len b < 1000) (key : D) : Dk b (.bool bn) key = .row [.int 1, .int (fd b key)] := (Zm ..).trans (Ix (F := fun i => QY b (.bool bn) (.int i) key) (by omega) fun i => cV ..)
theorem Uq (hn : len b < 1000) {key : D} (h : 0 ≤ fd b key) : Fo b (.bool bn) key = .row [.int 1, cl b (fd b key) 2, .int 0] := by
 have := LT (l := b) (key := key);rw [Y5];simp only [M0 hn, Bt, Bs, Az, decide_true, cond_true];rw [ifF (by omega), ifT this]
theorem MA (rk : Rk S C T) (hb : Bk b C V) {k : Nat} (hk : k < len T) : Fp b (.bool bn) (cl T k 0) (cl T k 1) (cl T k 2) (cl T k 3) (cl T k 4) (cl T k 5) (cl T k 6) (cl T k 7) (cl T k 8) = .row [.int 1, .bool (alw C V T k), .int 0] := by
 obtain ⟨⟨n2, h2⟩, ⟨n6, h6⟩, ⟨n7, h7⟩, ⟨n8, h8⟩, _⟩ := rk.tI k hk;have c1 := rk.c1;have lb := hb.lb;have ef := Nf hb.lb hb.nm (cl T k 5);unfold alw;rw [h2, h6, h7, h8, cK];rcases rk.ctr k hk with ⟨q, _⟩ | ⟨q, q0, q1, q2, q3, q4, q5, q6, q7⟩
 ·rw [cT q, q]; rfl
 rw [cF q, q];rw [h6, h7, h8] at *;simp only [Az] at *;obtain ⟨g1, g2⟩ := M5 q0;obtain ⟨n, v1, v2, v3, v4⟩ := hb.vl _ g2;have lim := rk.lim _ g2;have lm := hb.lm _ g2;rw [g1] at v1 v2 v4 lim lm;simp only [Uq (b := b) (by omega) (by omega : 0 ≤ fd b (cl T k 5)), M0 (b := b) (by omega), ef, v1, v2, lm, Bt, Bs, Az, A9, decide_true, cond_true, Bool.false_or]
 rw [ifF (by omega), ifT (by omega)]
 by_cases a1 : n < n6
 ·rw [ifT a1, decide_eq_true a1]; rfl
 rw [ifF a1, decide_eq_false a1];by_cases a2 : n7 < n
 ·rw [ifT a2, decide_eq_true a2]; rfl
 rw [ifF a2, decide_eq_false a2, AT (by omega) (by omega), ifF (by omega), AT (by omega) (by omega), decide_eq_false (by omega)]
 rfl
theorem XG (rk : Rk S C T) (hb : Bk b C V) {k : Nat} (hk : k < len T) (nm st ct sp an due dn hp ev : D) (stn ctn spn af hn ov en late : Bool) (aw now : Int) : Qo b (.bool bn) nm st (.bool stn) ct (.bool ctn) sp (.bool spn) an (.bool af) (.int aw) (.int now) due dn hp (.bool hn) (.bool ov) ev (.bool en) (.bool late) (cl T k 0) (cl T k 1) (cl T k 2) (cl T k 3) (cl T k 4) (cl T k 5) (cl T k 6) (cl T k 7) (cl T k 8) = .row [.int 1, .bool (Ej C V T an late k)] := by
 obtain ⟨⟨n2, h2⟩, ⟨n6, h6⟩, ⟨n7, h7⟩, ⟨n8, h8⟩, _⟩ := rk.tI k hk;have A := MA (bn := bn) rk hb hk;unfold Ej;rw [h2, h6, h7, h8] at *;rw [ZR, Qx, ifT (by omega), ifT rfl]
 cases D.strEq (cl T k 0) an
 ·rfl
 rw [cT rfl, w1, Qx, ifT (by omega), ifF (by omega), ifT rfl, A]
 simp only [Bt, Bs, Az, A9, decide_true, cond_true, Bool.true_and];cases alw C V T k
 ·rfl
 rw [cT rfl, w2, Qx, ifT (by omega), ifF (by omega), ifF (by omega), ifT rfl]
 have fin : ∀ x : Int, x = 3 → KJ (.int x) nm st (.bool stn) ct (.bool ctn) sp (.bool spn) an (.bool af) (.int aw) (.bool ov) ev (.bool en) b (.bool bn) (.int now) dn hp (.bool hn) due (cl T k 0) (cl T k 1) (.int n2) (cl T k 3) (cl T k 4) (cl T k 5) (.int n6) (.int n7) (.int n8) (.bool late) = .row [.int 1, .bool true] := fun x hx => by subst hx; rw [Qx, ifF (by omega)]
 by_cases q : n2 = 3
 ·subst q;rw [ifT rfl];cases late
  ·rfl
  ·rw [cT rfl]; exact fin _ rfl
 ·rw [ifF q];simp only [q, decide_false, Bool.not_false, Bool.true_or, Bool.and_true];exact fin _ rfl
theorem Xy (rk : Rk S C T) (hb : Bk b C V) {k : Nat} (hk : k < len T) (nm st ct sp an due dn hp ev : D) (stn ctn spn af hn ov en late : Bool) (aw now : Int) : Qv b (.bool bn) nm st (.bool stn) ct (.bool ctn) sp (.bool spn) an (.bool af) (.int aw) (.int now) due dn hp (.bool hn) (.bool ov) ev (.bool en) (.bool late) (cl T k 0) (cl T k 1) (cl T k 2) (cl T k 3) (cl T k 4) (cl T k 5) (cl T k 6) (cl T k 7) (cl T k 8) = .row [.int 1, .bool (Ej C V T an late k)] := by
 obtain ⟨⟨n2, h2⟩, ⟨n6, h6⟩, ⟨n7, h7⟩, ⟨n8, h8⟩, _⟩ := rk.tI k hk;have A := MA (bn := bn) rk hb hk;unfold Ej;rw [h2, h6, h7, h8] at *;rw [Zu, Q6, ifT (by omega), ifT rfl]
 cases D.strEq (cl T k 0) an
 ·rfl
 rw [cT rfl, w1, Q6, ifT (by omega), ifF (by omega), ifT rfl, A]
 simp only [Bt, Bs, Az, A9, decide_true, cond_true, Bool.true_and];cases alw C V T k
 ·rfl
 rw [cT rfl, w2, Q6, ifT (by omega), ifF (by omega), ifF (by omega), ifT rfl]
 have fin : ∀ x : Int, x = 3 → KH (.int x) nm st (.bool stn) ct (.bool ctn) sp (.bool spn) an (.bool af) (.int aw) (.bool ov) ev (.bool en) b (.bool bn) (.int now) dn hp (.bool hn) due (cl T k 0) (cl T k 1) (.int n2) (cl T k 3) (cl T k 4) (cl T k 5) (.int n6) (.int n7) (.int n8) (.bool late) = .row [.int 1, .bool true] := fun x hx => by subst hx; rw [Q6, ifF (by omega)]
 by_cases q : n2 = 3
 ·subst q;rw [ifT rfl];cases late
  ·rfl
  ·rw [cT rfl]; exact fin _ rfl
 ·rw [ifF q];simp only [q, decide_false, Bool.not_false, Bool.true_or, Bool.and_true];exact fin _ rfl
theorem Up (rk : Rk S C T) (hb : Bk b C V) {k : Nat} (hk : k < len T) (nm st ct sp an due dn hp ev due2 dn2 hp2 : D) (stn ctn spn af hn ov en hn2 late : Bool) (aw now now2 : Int) : JN b (.bool bn) nm st (.bool stn) ct (.bool ctn) sp (.bool spn) an (.bool af) (.int aw) (.int now) due dn hp (.bool hn) (.bool ov) ev (.bool en) (.int now2) due2 dn2 hp2 (.bool hn2) (.bool late) (cl T k 0) (cl T k 1) (cl T k 2) (cl T k 3) (cl T k 4) (cl T k 5) (cl T k 6) (cl T k 7) (cl T k 8) = .row [.int 1, .bool (Ej C V T an late k)] := by
 obtain ⟨⟨n2, h2⟩, ⟨n6, h6⟩, ⟨n7, h7⟩, ⟨n8, h8⟩, _⟩ := rk.tI k hk;have A := MA (bn := bn) rk hb hk;unfold Ej;rw [h2, h6, h7, h8] at *;rw [aM, QG, ifT (by omega), ifT rfl]
 cases D.strEq (cl T k 0) an
 ·rfl
 rw [cT rfl, w1, QG, ifT (by omega), ifF (by omega), ifT rfl, A]
 simp only [Bt, Bs, Az, A9, decide_true, cond_true, Bool.true_and];cases alw C V T k
 ·rfl
 rw [cT rfl, w2, QG, ifT (by omega), ifF (by omega), ifF (by omega), ifT rfl]
 have fin : ∀ x : Int, x = 3 → J7 (.int x) nm st (.bool stn) ct (.bool ctn) sp (.bool spn) an (.bool af) (.int aw) (.bool ov) ev (.bool en) b (.bool bn) (.int now) dn hp (.bool hn) due (.int now2) dn2 hp2 (.bool hn2) due2 (cl T k 0) (cl T k 1) (.int n2) (cl T k 3) (cl T k 4) (cl T k 5) (.int n6) (.int n7) (.int n8) (.bool late) = .row [.int 1, .bool true] := fun x hx => by subst hx; rw [QG, ifF (by omega)]
 by_cases q : n2 = 3
 ·subst q;rw [ifT rfl];cases late
  ·rfl
  ·rw [cT rfl]; exact fin _ rfl
 ·rw [ifF q];simp only [q, decide_false, Bool.not_false, Bool.true_or, Bool.and_true];exact fin _ rfl
end
end Mr
namespace Mr
open Go Go.AE
structure TI (ov : Bool) (o : Option Int) (ent w time : Int) : Prop where
 w0 : 0 ≤ w
 w1 : w ≤ 1048576
 e0 : 0 ≤ ent
 e1 : ent ≤ time
 t1 : time ≤ 1099511627776
 on : ov = true → 0 < w ∧ ent + w ≤ time ∧ o = none
 off : ov = false → 0 < w → (ent + w ≤ 1099511627776 ∧ o = some (ent + w) ∧ time < ent + w) ∨ (1099511627776 < ent + w ∧ o = none)
 z : w = 0 → ov = false ∧ o = none
def VF (S : D) : Prop := ∀ i : Nat, i < len S → ∃ b w, cl S i 1 = .bool b ∧ cl S i 2 = .int w
structure Inv (S C T : D) (n : Nat) (m : MS) (r : RS) : Prop where
 rk : Rk S C T
 so : VF S
 st : m.st.rows = S.rows
 ct : m.ct.rows = C.rows
 sp : m.sp.rows = T.rows
 spn : m.spn = true → T.rows = []
 bk : Bk m.b C r.vals
 bn : m.bn = true → len C = 0
 df : Df r.defs C
 at0 : 0 ≤ fd S r.at'
 an : D.strEq m.an r.at' = true
 af : cl S (fd S r.at') 1 = .bool m.af
 aw : cl S (fd S r.at') 2 = .int m.aw
 nt : m.now = r.time
 o : ∃ o, CK m.due m.dn m.hp m.hn o ∧ TI m.ov o r.ent m.aw r.time
 hl : len m.hp ≤ n
 el : len m.ev = len r.evs
 ee : ∀ j : Nat, j < len r.evs → cl m.ev j 0 = cl r.evs j 0 ∧ cl m.ev j 1 = cl r.evs j 1
 en : m.en = true → len m.ev = 0
 el' : len r.evs ≤ n
theorem EO {x : D} {l : List D} : sl (.row (x :: l)) 0 = x := by cases l <;> exact Bt
theorem EG {x : D} {l : List D} {n : Nat} : sl (.row (x :: l)) (n + 1) = sl (.row l) n := by cases l <;> exact Bs
theorem tI {n : Int} : (D.int n).toInt = n := by cases n <;> exact Az
theorem tB {b : Bool} : (D.bool b).toBool = b := by cases b <;> exact A9
theorem iT {α : Type} {p : Prop} {i : Decidable p} {a b : α} (h : p) : cond (@decide p i) a b = a := by rw [decide_eq_true h]; rfl
theorem iF {α : Type} {p : Prop} {i : Decidable p} {a b : α} (h : ¬ p) : cond (@decide p i) a b = b := by rw [decide_eq_false h]; rfl
theorem Ba {a b : D} (h : a.rows = b.rows) : len a = len b := congrArg List.length h
theorem Gl {a b : D} (h : a.rows = b.rows) (i : Int) (j : Nat) : cl a i j = cl b i j := by unfold cl; rw [h]
section
variable [Ao]
variable {S C T N : D} {n : Nat} {m : MS} {r : RS}
theorem XC (h : Inv S C T n m r) {late : Bool} {t : Int} (hl : 0 < m.aw → late = !decide (t - r.ent < m.aw)) {k : Nat} (hk : k < len T) : Ej C r.vals T m.an late k = Ej C r.vals T r.at' (!decide (t - r.ent < m.aw)) k := by
 unfold Ej
 have e : D.strEq (cl T k 0) m.an = D.strEq (cl T k 0) r.at' := by
  rw [Bn (a := cl T k 0) (b := m.an), Bn (a := cl T k 0) (b := r.at')];exact HS h.an
 rw [e];cases q : D.strEq (cl T k 0) r.at'
 ·rfl
 by_cases c : (cl T k 2).toInt = 3
 ·have w := h.rk.tmo k hk c;rw [Xj q, h.aw] at w;rw [hl w]
 ·simp only [c, decide_false, Bool.not_false, Bool.true_or]
def Ry (C V T an : D) (k : Nat) : Bool := decide ((cl T k 2).toInt = 3) && Ej C V T an true k
theorem SA (h : Inv S C T n m r) : ∀ (k j : Nat) (out : D) (ob : Bool), j + k = len T → len out ≤ j → ∃ out' ob', Ma out (.bool ob) m.sp (.bool m.spn) (.int j) (.bool true) m.nm m.st (.bool m.stn) m.ct (.bool m.ctn) (.bool m.spn) m.an (.bool m.af) (.int m.aw) (.bool m.ov) m.ev (.bool m.en) m.b (.bool m.bn) (.int m.now) m.dn m.hp (.bool m.hn) m.due = .row [.int 1, out', .bool ob'] ∧ (len out' = 0 ↔ len out = 0 ∧ fdG (Ry C r.vals T m.an) k j < 0) := by
 intro k
 induction k with
 | zero =>
  intro j out ob hj hl;rw [Ww, ifF (by rw [Ba h.sp]; omega)]
  refine ⟨out, ob, rfl, ?_⟩;have : fdG (Ry C r.vals T m.an) 0 j < 0 := by unfold fdG; omega
  exact ⟨fun q => ⟨q, this⟩, fun q => q.1⟩
 | succ k ih =>
  intro j out ob hj hl;have tl := h.rk.t1;have A := XG (bn := m.bn) h.rk h.bk (k := j) (by omega) m.nm m.st m.ct m.sp m.an m.due m.dn m.hp m.ev m.stn m.ctn m.spn m.af m.hn m.ov m.en true m.aw m.now
  have F : fdG (Ry C r.vals T m.an) (k + 1) j = cond (Ry C r.vals T m.an j) (j : Int) (fdG (Ry C r.vals T m.an) k (j + 1)) := rfl;rw [Ww, ifT (by rw [Ba h.sp]; omega), ifF (by omega)]
  simp only [Gl h.sp];rw [A, F, CZ (by omega)]
  simp only [EO, EG, tI, tB, decide_true, cond_true];unfold Ry;have N := ih (j + 1) out ob (by omega) (by omega)
  by_cases c : (cl T j 2).toInt = 3
  ·rw [ifT c, decide_eq_true c];simp only [Bool.true_and];cases Ej C r.vals T m.an true j
   ·exact N
   ·rw [cT rfl, cT rfl, ifT (by omega)]
    obtain ⟨o2, b2, q1, q2⟩ := ih (j + 1) (ad out (.row [cl T j 0, cl T j 1, cl T j 2, cl T j 3, cl T j 4, cl T j 5, cl T j 6, cl T j 7, cl T j 8])) false (by omega) (by rw [BD]; omega)
    refine ⟨o2, b2, q1, ⟨fun z => ?_, fun z => ?_⟩⟩
    ·have := (q2.1 z).1;rw [BD] at this;omega
    ·exact absurd z.2 (by omega)
  ·rw [ifF c, decide_eq_false c];exact N
theorem UP (h : Inv S C T n m r) : ∃ a e : Int, T6 m.b (.bool m.bn) m.nm m.st (.bool m.stn) m.ct (.bool m.ctn) m.sp (.bool m.spn) m.an (.bool m.af) (.int m.aw) (.int m.now) m.due m.dn m.hp (.bool m.hn) (.bool m.ov) m.ev (.bool m.en) = .row [.int 1, .int a, .int e] := by
 obtain ⟨o, ck, ti⟩ := h.o;obtain ⟨out, ob, g1, g2⟩ := SA h (len T) 0 AN true (by omega) (Nat.le_refl _)
 have g3 : Ri m.sp (.bool m.spn) m.b (.bool m.bn) m.nm m.st (.bool m.stn) m.ct (.bool m.ctn) (.bool m.spn) m.an (.bool m.af) (.int m.aw) (.int m.now) m.due m.dn m.hp (.bool m.hn) (.bool m.ov) m.ev (.bool m.en) (.bool true) = .row [.int 1, out, .bool ob] := (aS ..).trans g1
 have L : ∃ a e : Int, GC (.int m.now) m.due m.dn m.hp (.bool m.hn) (.int 0) = .row [.int 1, .int a, .int e] := by
  rw [UL, ifF (by omega), ifT (by omega)]
  cases o with
  | none =>
   rw [Hz (show m.due.rows = [] from ck.dm)]
   refine ⟨0, 9, ?_⟩;cases m.dn.toBool
   ·rw [cF rfl, ifT (by omega)]
   ·rfl
  | some d =>
   rw [ck.dm.2, cF rfl, HG ck.dm.1, ifF (by omega), Ns ck.dm.1]
   exact ⟨_, 0, rfl⟩
 obtain ⟨la, le, l1⟩ := L;rw [cq, l1, g3];simp only [EO, EG, tI, decide_true, cond_true];cases decide ((len out : Int) = 0);rotate_left
 ·exact ⟨_, _, rfl⟩
 cases m.ov;rotate_left
 ·exact ⟨_, _, rfl⟩
 simp only [cond_false];cases decide (le = 0)
 ·exact ⟨_, _, rfl⟩
 ·exact ⟨_, _, rfl⟩
end
end Mr
namespace Mr
open Go Go.AE
section
variable [Ao]
variable {S C T N : D} {n : Nat} {m : MS} {r : RS}
theorem Nr (h : Inv S C T n m r) (hn : n < 900) {t : Int} (h0 : r.time ≤ t) (h1 : t ≤ 1099511627776) :
  ∃ (dn1 hp1 due1 out hp2 due2 : D) (b1 on : Bool), Md (.int m.now) m.due m.dn m.hp (.bool m.hn) = .row [.int 1, .int m.now, dn1, hp1, .bool b1, due1] ∧
   KY (.int m.now) due1 dn1 hp1 (.bool b1) (.int t) = .row [.int 1, out, .bool on, .int 0, .int t, hp2, .bool b1, due2] ∧ len hp2 ≤ n ∧
   (∃ o', CK due2 dn1 hp2 b1 o' ∧ TI (m.ov || decide (0 < (len out : Int))) o' r.ent m.aw t) ∧ (0 < m.aw → (m.ov || decide (0 < (len out : Int))) = !decide (t - r.ent < m.aw)) := by
 obtain ⟨o, ck, ti⟩ := h.o;have hl := h.hl;have nt := h.nt;obtain ⟨dn1, hp1, due1, b1, c1, c2, c3⟩ := Vx (now := m.now) ck (by omega)
 obtain ⟨out, on, hp2, due2, a1, a2, a3⟩ := Xg (now := m.now) (t := t) c3 (by omega) (by omega) h1
 refine ⟨dn1, hp1, due1, out, hp2, due2, b1, on, c1, a1, by omega, ?_, ?_⟩
 ·rcases a3 with ⟨d, e1, e2, e3, e4⟩ | ⟨e1, e2, e3⟩
  ·rw [e3, Bool.or_true]
   have wp : 0 < m.aw := by
    rcases Int.lt_or_le 0 m.aw with q | q
    ·exact q
    ·have := ti.z (by have := ti.w0; omega)
     rw [this.2] at e1; cases e1
   have eov : m.ov = false := by
    cases hov : m.ov with
    | false => rfl
    | true => have := (ti.on hov).2.2; rw [this] at e1; cases e1
   refine ⟨none, e4, ti.w0, ti.w1, ti.e0, by have := ti.e1; omega, h1, fun _ => ⟨wp, ?_, rfl⟩, (fun c => nomatch c), fun z => by omega⟩
   rcases ti.off eov wp with ⟨q1, q2, q3⟩ | ⟨q1, q2⟩
   ·rw [q2] at e1; cases e1; omega
   ·rw [q2] at e1; cases e1
  ·rw [e2, Bool.or_false];refine ⟨o, e3, ti.w0, ti.w1, ti.e0, by have := ti.e1; omega, h1, fun c => ?_, fun c wp => ?_, ti.z⟩
   ·obtain ⟨q1, q2, q3⟩ := ti.on c;exact ⟨q1, by omega, q3⟩
   ·rcases ti.off c wp with ⟨q1, q2, q3⟩ | ⟨q1, q2⟩
    ·exact .inl ⟨q1, q2, e1 _ q2⟩
    ·exact .inr ⟨q1, q2⟩
 ·intro wp;rcases a3 with ⟨d, e1, e2, e3, e4⟩ | ⟨e1, e2, e3⟩
  ·rw [e3, Bool.or_true]
   have eov : m.ov = false := by
    cases hov : m.ov with
    | false => rfl
    | true => have := (ti.on hov).2.2; rw [this] at e1; cases e1
   rcases ti.off eov wp with ⟨q1, q2, q3⟩ | ⟨q1, q2⟩
   ·rw [q2] at e1; cases e1;rw [decide_eq_false (by omega)]; rfl
   ·rw [q2] at e1; cases e1
  ·rw [e2, Bool.or_false];cases hov : m.ov with
   | true =>
    obtain ⟨q1, q2, q3⟩ := ti.on hov;rw [decide_eq_false (by omega)]; rfl
   | false =>
    rcases ti.off hov wp with ⟨q1, q2, q3⟩ | ⟨q1, q2⟩
    ·have := e1 _ q2;rw [decide_eq_true (by omega)]; rfl
    ·rw [decide_eq_true (by omega)]; rfl
theorem Mn (h : Inv S C T n m r) : ∃ (l : D) (b : Bool), Dj m.sp (.bool m.spn) = .row [.int 1, l, .bool b] ∧ l.rows = T.rows := by
 rw [Y7];cases hs : m.spn with
 | true => exact ⟨AN, true, rfl, (h.spn hs).symm⟩
 | false =>
  have := Ba h.sp;have := h.rk.t1;rw [cF rfl, ifT (by omega)]
  exact ⟨ct AZ m.sp, false, rfl, h.sp⟩
theorem SK (h : Inv S C T n m r) {late : Bool} {sp' : D} {sb : Bool} (hs : sp'.rows = T.rows) (ov : Bool) (now : Int) (dn hp due : D) (hn : Bool) :
  ∀ (k j : Nat) (out : D) (ob : Bool), j + k = len T → len out ≤ j → ∃ (l1 : D) (b1 : Bool),
   Ml sp' (.bool sb) (.int j) out (.bool ob) (.bool late) m.nm m.st (.bool m.stn) m.ct (.bool m.ctn) m.sp (.bool m.spn) m.an (.bool m.af) (.int m.aw) (.bool ov) m.ev (.bool m.en) m.b (.bool m.bn) (.int now) dn hp (.bool hn) due m.an = .row [.int 1, l1, .bool b1] := by
 intro k
 induction k with
 | zero =>
  intro j out ob hj hlen;rw [Wu, ifF (by rw [Ba hs]; omega)]
  exact ⟨out, ob, rfl⟩
 | succ k ih =>
  intro j out ob hj hlen;have tl := h.rk.t1;have A := Xy (bn := m.bn) h.rk h.bk (k := j) (by omega) m.nm m.st m.ct m.sp m.an due dn hp m.ev m.stn m.ctn m.spn m.af hn ov m.en late m.aw now
  rw [Wu, ifT (by rw [Ba hs]; omega), ifF (by omega)]
  simp only [Gl hs];rw [A, CZ (i := j) (by omega)]
  simp only [EO, EG, tI, tB, decide_true, cond_true];have Nn := ih (j + 1) out ob (by omega) (by omega)
  have Y := ih (j + 1) (ad out (.row [.int j])) false (by omega) (by rw [BD]; omega)
  cases D.strEq (cl T j 0) m.an
  ·exact Nn
  ·rw [cT rfl];cases Ej C r.vals T m.an late j
   ·exact Nn
   ·rw [cT rfl, ifT (by omega)]
    exact Y
theorem Yg (h : Inv S C T n m r) (hn : n < 900) (t : Int) : ∃ (ov' : Bool) (now' : Int) (dn' hp' due' : D) (hn' : Bool) (time' : Int) (l1 : D) (b1 : Bool) (e : Int),
  TZ m.b (.bool m.bn) m.nm m.st (.bool m.stn) m.ct (.bool m.ctn) m.sp (.bool m.spn) m.an (.bool m.af) (.int m.aw) (.int m.now) m.due m.dn m.hp (.bool m.hn) (.bool m.ov) m.ev (.bool m.en) (.int t) = .row [.int 1, l1, .bool b1, .int e, .bool ov', due', hp', .int now', dn', .bool hn'] ∧
  Inv S C T n { m with ov := ov', now := now', dn := dn', hp := hp', due := due', hn := hn' } { r with time := time' } ∧ r.time ≤ time' := by
 have nt := h.nt;have tm0 : 0 ≤ r.time := by obtain ⟨o, _, ti⟩ := h.o; have := ti.e0; have := ti.e1; omega
 by_cases c0 : t < r.time
 ·rw [SP (h0 := rfl) (h1 := rfl), ifT (by omega)]
  exact ⟨m.ov, m.now, m.dn, m.hp, m.due, m.hn, r.time, AN, true, 3, rfl, h, by omega⟩
 by_cases c1 : 1099511627776 < t
 ·rw [SP (h0 := rfl) (h1 := rfl), ifF (by omega), ifT c1]
  exact ⟨m.ov, m.now, m.dn, m.hp, m.due, m.hn, r.time, AN, true, 3, rfl, h, by omega⟩
 obtain ⟨dn1, hp1, due1, out, hp2, due2, b1, on, w1, w2, w3, w4, w5⟩ := Nr h hn (t := t) (by omega) (by omega)
 obtain ⟨sp', sb, s1, s2⟩ := Mn h;obtain ⟨l1, x1, p1⟩ := SK h (late := m.ov || decide (0 < (len out : Int))) (sp' := sp') (sb := sb) s2 (m.ov || decide (0 < (len out : Int))) t dn1 hp2 due2 b1 (len T) 0 AN true (by omega) (Nat.le_refl _)
 refine ⟨m.ov || decide (0 < (len out : Int)), t, dn1, hp2, due2, b1, t, l1, x1, 0, ?_, ⟨h.rk, h.so, h.st, h.ct, h.sp, h.spn, h.bk, h.bn, h.df, h.at0, h.an, h.af, h.aw, rfl, w4, w3, h.el, h.ee, h.en, h.el'⟩, by omega⟩
 rw [SP (h0 := w1) (h1 := w2), ifF (by omega), ifF c1, s1]
 have p1' := (cD ..).trans p1;simp only [EO, EG, tI, tB, decide_true, cond_true];cases hov : m.ov with
 | true =>
  rw [hov, Bool.true_or] at p1';rw [cT rfl, Bool.true_or, p1'];rfl
 | false =>
  rw [hov, Bool.false_or] at p1';rw [cF rfl, Bool.false_or, p1'];rfl
end
end Mr
namespace Mr
open Go Go.AE
section
variable [Ao]
variable {S C T N : D} {n : Nat} {m : MS} {r : RS}
theorem Wa {st : D} {stn : Bool} (hst : st.rows = S.rows) (hs : len S < 1000) {key : D} (hk : 0 ≤ fd S key) : ∃ (out : D) (b : Bool), Dy st (.bool stn) key = .row [.int 1, out, .bool b] ∧ 0 < len out ∧ ∀ c, c < 3 → cl out 0 c = cl S (fd S key) c := by
 have E : ∀ (k j : Nat) (out : D) (b : Bool), j + k = len S → len out ≤ j → ((len out = 0 ∧ fdG (fun i => D.strEq (cl S i 0) key) k j = fd S key) ∨ (0 < len out ∧ ∀ c, c < 3 → cl out 0 c = cl S (fd S key) c)) →
   ∃ (out' : D) (b' : Bool), Oe out (.bool b) st (.bool stn) (.int j) key = .row [.int 1, out', .bool b'] ∧ 0 < len out' ∧ ∀ c, c < 3 → cl out' 0 c = cl S (fd S key) c := by
  intro k
  induction k with
  | zero =>
   intro j out b hj hl hc;rw [Wo, ifF (by rw [Ba hst]; omega)]
   rcases hc with ⟨_, q⟩ | q
   ·have : fdG (fun i => D.strEq (cl S i 0) key) 0 j = -1 := rfl
    omega
   ·exact ⟨out, b, rfl, q⟩
  | succ k ih =>
   intro j out b hj hl hc;have F : fdG (fun i => D.strEq (cl S i 0) key) (k + 1) j = cond (D.strEq (cl S j 0) key) (j : Int) (fdG (fun i => D.strEq (cl S i 0) key) k (j + 1)) := rfl
   rw [Wo, ifT (by rw [Ba hst]; omega), ifF (by omega)]
   simp only [Gl hst];rw [CZ (i := j) (by omega)]
   cases q : D.strEq (cl S j 0) key
   ·rw [q] at F;refine ih (j + 1) out b (by omega) (by omega) ?_
    rcases hc with ⟨z, p⟩ | p
    ·exact .inl ⟨z, F.symm.trans p⟩
    ·exact .inr p
   ·rw [q] at F;rw [cT rfl, ifT (by omega)]
    refine ih (j + 1) _ false (by omega) (by rw [BD]; omega) (.inr ⟨by rw [BD]; omega, fun c hc' => ?_⟩)
    rcases hc with ⟨z, p⟩ | ⟨p0, p⟩
    ·have p' : (j : Int) = fd S key := F.symm.trans p;rw [BW (by omega), if_pos (by omega), p']
     match c, hc' with
     | 0, _ => rfl
     | 1, _ => rfl
     | 2, _ => rfl
    ·rw [BW (by omega), if_neg (by omega)]
     exact p c hc'
 obtain ⟨out, b, q1, q2⟩ := E (len S) 0 AN true (by omega) (Nat.le_refl _) (.inl ⟨rfl, rfl⟩)
 exact ⟨out, b, (Z0 ..).trans q1, q2⟩
theorem NQ (so : VF S) (hs : len S < 1000) (wt : ∀ i : Nat, i < len S → 0 ≤ (cl S i 2).toInt ∧ (cl S i 2).toInt ≤ 1048576) {st : D} {stn : Bool} (hst : st.rows = S.rows) {due dn hp : D} {hn : Bool} {o : Option Int} (ck : CK due dn hp hn o) {now : Int} (hl : len hp < 1000) (n0 : 0 ≤ now) (n1 : now ≤ 1099511627776) {key : D} (hk : 0 ≤ fd S key)
  (b nm ct sp an ev : D) (bn ctn spn af ov en : Bool) (aw : Int) : ∃ (af' : Bool) (aw' : Int) (dn' hp' due' : D) (hn' : Bool), cl S (fd S key) 1 = .bool af' ∧ cl S (fd S key) 2 = .int aw' ∧
   CY b (.bool bn) nm st (.bool stn) ct (.bool ctn) sp (.bool spn) an (.bool af) (.int aw) (.int now) due dn hp (.bool hn) (.bool ov) ev (.bool en) key = .row [.int 1, cl S (fd S key) 0, .bool af', .int aw', dn', hp', .bool hn', due'] ∧
   len hp' ≤ len hp + 1 ∧ ∃ o', CK due' dn' hp' hn' o' ∧ TI false o' now aw' now := by
 obtain ⟨g1, g2⟩ := M5 hk;obtain ⟨af', aw', a1, a2⟩ := so _ g2;have w := wt _ g2;rw [g1] at a1 a2 w;rw [a2] at w;obtain ⟨out, ob, k1, k2, k3⟩ := Wa (stn := stn) hst hs hk;obtain ⟨e, due1, s1, s2⟩ := VG (now := now) ck;have c0 := k3 0 (by omega)
 have c1 := k3 1 (by omega)
 have c2 := k3 2 (by omega)
 rw [a1] at c1;rw [a2] at c2;have w : 0 ≤ aw' ∧ aw' ≤ 1048576 := w;by_cases q : 0 < aw'
 ·obtain ⟨e2, dn', hp', due', hn', p1, p2, p3⟩ := Sx (now := now) (w := aw') s2 hl n0 n1 w.1 w.2;refine ⟨af', aw', dn', hp', due', hn', a1, a2, ?_, p2, _, p3, w.1, w.2, n0, Int.le_refl _, n1, (fun c => nomatch c), fun _ _ => ?_, fun z => by omega⟩
  ·rw [WI, k1, s1];simp only [EO, EG, tI, tB, decide_true, cond_true, c0, c1, c2, p1];rw [iT (by omega), iT q]
  ·by_cases z : now + aw' ≤ 1099511627776
   ·rw [if_pos z]; exact .inl ⟨z, rfl, by omega⟩
   ·rw [if_neg z]; exact .inr ⟨by omega, rfl⟩
 ·have z : aw' = 0 := by omega
  subst z;refine ⟨af', 0, dn, hp, due1, hn, a1, a2, ?_, by omega, none, s2, w.1, w.2, n0, Int.le_refl _, n1, (fun c => nomatch c), fun _ c => absurd c (Int.lt_irrefl 0), fun _ => ⟨rfl, rfl⟩⟩
  ·rw [WI, k1, s1];simp only [EO, EG, tI, tB, decide_true, cond_true, c0, c1, c2];rw [iT (by omega), iF (by omega)]
def N1 (C T V : D) (k : Nat) : D := cond (eqC (cl T k 5) 0 0) V (upd V (fd C (cl T k 5)) 0 (.int ((cl V (fd C (cl T k 5)) 0).toInt + (cl T k 8).toInt)))
theorem Sy {V b : D} {bn : Bool} (rk : Rk S C T) (hb : Bk b C V) {k : Nat} (hk : k < len T) (ha : alw C V T k = true) : ∃ b', EE b (.bool bn) (cl T k 0) (cl T k 1) (cl T k 2) (cl T k 3) (cl T k 4) (cl T k 5) (cl T k 6) (cl T k 7) (cl T k 8) = .row [.int 1, .int 0, b'] ∧ Bk b' C (N1 C T V k) := by
 have A := MA (bn := bn) rk hb hk;obtain ⟨⟨n2, h2⟩, ⟨n6, h6⟩, ⟨n7, h7⟩, ⟨n8, h8⟩, _⟩ := rk.tI k hk;have c1 := rk.c1;have lb := hb.lb;have lv := hb.lv;have ef := Nf hb.lb hb.nm (cl T k 5);rw [ha] at A;have ha' := ha;unfold alw at ha';unfold N1;rw [h2, h6, h7, h8] at A ⊢;rcases rk.ctr k hk with ⟨q, _⟩ | ⟨q, q0, q1, q2, q3, q4, q5, q6, q7⟩
 ·refine ⟨b, ?_, by rw [q]; exact hb⟩
  rw [Wk, A];simp only [EO, EG, tI, tB, decide_true, cond_true, q]
 rw [q, h6, h7] at ha';rw [h6, h7, h8] at *;simp only [Az] at *;obtain ⟨g1, g2⟩ := M5 q0;obtain ⟨x, v1, v2, v3, v4⟩ := hb.vl _ g2;have lim := rk.lim _ g2;rw [g1] at v1 v2 v4 lim;rw [v2] at ha' ⊢;simp only [Az, Bool.false_or, Bool.and_eq_true, Bool.not_eq_true'] at ha';have i1 := dF ha'.1;have i2 := dF ha'.2;generalize hi : (fd C (cl T k 5)).toNat = i at g1 g2;have F10 := M0 (b := b) (bn := bn) (by omega) (cl T k 5)
 rw [ef, ← g1] at F10;rw [← g1] at v1 v2 v4 lim q3 q7;have wc : Wd V 1 := hb.wv;rw [← g1, q];simp only [cond_false, tI];refine ⟨upd b i 2 (.int (x + n8)), ?_, ?_⟩
 ·rw [Wk, A, F10];simp only [EO, EG, tI, tB, decide_true, cond_true, q, cond_false, v1];rw [iF (by omega), iT (by omega), AT (by omega) (by omega)]
 ·refine ⟨by rw [DF]; exact lb, by rw [DF]; exact lv, DY hb.wb, DY wc, fun j hj => ?_, fun j hj => ?_, fun j hj => ?_⟩
  ·rw [Eu hb.wb (by omega) (by omega) (by omega) (by omega), if_neg (by omega)]
   exact hb.nm j hj
  ·rw [Eu hb.wb (by omega) (by omega) (by omega) (by omega), if_neg (by omega)]
   exact hb.lm j hj
  ·rw [Eu hb.wb (by omega) (by omega) (by omega) (by omega), Eu wc (by omega) (by omega) (by omega) (by omega)]
   by_cases z : (j : Int) = i
   ·rw [if_pos ⟨z, rfl⟩, if_pos ⟨z, rfl⟩];have : j = i := by omega
    subst this;exact ⟨_, rfl, rfl, by omega, by omega⟩
   ·rw [if_neg (fun c => z c.1), if_neg (fun c => z c.1)]
    exact hb.vl j hj
end
end Mr
namespace Mr
open Go Go.AE
section
variable [Ao]
variable {S C T N : D} {n : Nat} {m : MS} {r : RS}
def perf (C T : D) (r : RS) (t : Int) (k : Nat) : RS := ⟨cl T k 1, t, r.defs, N1 C T r.vals k, t, ad r.evs (.row [.int k, .int t])⟩
def good (S C T : D) (r : RS) (t : Int) (k : Nat) : Prop := k < len T ∧ r.time ≤ t ∧ t ≤ 1099511627776 ∧ Ej C r.vals T r.at' (!decide (t - r.ent < (cl S (fd S r.at') 2).toInt)) k = true
theorem Fb (h : Inv S C T n m r) (hn : n < 900) {t : Int} (t0 : r.time ≤ t) (t1 : t ≤ 1099511627776) {late : Bool} (hl : 0 < m.aw → late = !decide (t - r.ent < m.aw)) {due2 dn1 hp2 : D} {b1 : Bool} (w3 : len hp2 ≤ n) (w4 : ∃ o', CK due2 dn1 hp2 b1 o' ∧ TI late o' r.ent m.aw t) {k : Nat} (hk : k < len T) (hc : Ej C r.vals T m.an late k = true) (ov : Bool) :
  ∃ (an' : D) (af' : Bool) (aw' : Int) (b' dn' hp' due' : D) (hn' : Bool),
   Mc m.b (.bool m.bn) m.nm m.st (.bool m.stn) m.ct (.bool m.ctn) m.sp (.bool m.spn) m.an (.bool m.af) (.int m.aw) (.int m.now) m.due m.dn m.hp (.bool m.hn) (.bool ov) m.ev (.bool m.en) (.int t) due2 dn1 hp2 (.bool b1) (.bool late) (.int t) (.int k)
    = .row [.int 1, an', .bool af', .int aw', ad m.ev (.row [.int k, .int t]), .bool false, b', .bool m.bn, .int m.now, m.dn, m.hp, .bool m.hn, m.due, .int t, dn', hp', .bool hn', due'] ∧
   Inv S C T (n + 1) { m with an := an', af := af', aw := aw', ov := false, ev := ad m.ev (.row [.int k, .int t]), en := false, b := b', now := t, dn := dn', hp := hp', due := due', hn := hn' } (perf C T r t k) := by
 obtain ⟨o', ck, ti⟩ := w4;have e0 := ti.e0;have e1 := ti.e1;have tl := h.rk.t1;have hc' := hc;unfold Ej at hc';simp only [Bool.and_eq_true] at hc';obtain ⟨b', p1, p3⟩ := Sy (bn := m.bn) h.rk h.bk hk hc'.2.1;have to := h.rk.to k hk;have E := NQ h.so h.rk.s1 h.rk.wt (stn := m.stn) h.st ck (now := t) (by omega) (by omega) t1 to b' m.nm m.ct m.sp m.an m.ev m.bn m.ctn m.spn m.af late m.en m.aw
 obtain ⟨af', aw', dn', hp', due', hn', a1, a2, q1, q3, q4⟩ := E;have el := h.el;have el' := h.el';refine ⟨cl S (fd S (cl T k 1)) 0, af', aw', b', dn', hp', due', hn', ?_, ?_⟩
 ·have L1 : len b' = len m.b := by rw [p3.lb, h.bk.lb]
  rw [Za, ifT (by omega), ifF (by omega), ifT (by rw [Ba h.sp]; omega)]
  simp only [Gl h.sp];rw [p1];simp only [EO, EG, tI, decide_true, cond_true, L1];rw [q1];rfl
 ·obtain ⟨g1, g2⟩ := M5 to;refine ⟨h.rk, h.so, h.st, h.ct, h.sp, h.spn, p3, h.bn, h.df, to, Wy to, a1, a2, rfl, q4, by show len hp' ≤ n + 1; omega, ?_, fun j hj => ?_, (fun c => nomatch c), ?_⟩
  ·show len (ad m.ev _) = len (ad r.evs _);rw [BD, BD, el]
  ·have hj : j < len (ad r.evs (.row [.int k, .int t])) := hj;rw [BD] at hj;show cl (ad m.ev _) j 0 = cl (ad r.evs _) j 0 ∧ cl (ad m.ev _) j 1 = cl (ad r.evs _) j 1;rw [BW (by omega), BW (by omega), BW (by omega), BW (by omega), el]
   by_cases z : (j : Int) = len r.evs
   ·refine ⟨?_, ?_⟩ <;> simp only [if_pos z]
   ·simp only [if_neg z]; exact h.ee j (by omega)
  ·show len (ad r.evs _) ≤ n + 1;rw [BD];omega
theorem Inv.mono (h : Inv S C T n m r) {n' : Nat} (hn : n ≤ n') : Inv S C T n' m r := { h with hl := Nat.le_trans h.hl hn, el' := Nat.le_trans h.el' hn }
theorem QI (h : Inv S C T n m r) {t : Int} {late : Bool} (hl : 0 < m.aw → late = !decide (t - r.ent < m.aw)) {k : Nat} (hk : k < len T) (t0 : r.time ≤ t) (t1 : t ≤ 1099511627776) : good S C T r t k ↔ Ej C r.vals T m.an late k = true := by
 rw [XC h hl hk];unfold good;rw [h.aw];exact ⟨fun g => g.2.2.2, fun g => ⟨hk, t0, t1, g⟩⟩
theorem TT (h : Inv S C T n m r) (hn : n < 900) (t k : Int) : ∃ (an' : D) (af' : Bool) (aw' : Int) (ov' : Bool) (ev' : D) (en' : Bool) (b' : D) (now' : Int) (dn' hp' due' : D) (hn' : Bool) (r' : RS) (e : Int),
  Bc m.b (.bool m.bn) m.nm m.st (.bool m.stn) m.ct (.bool m.ctn) m.sp (.bool m.spn) m.an (.bool m.af) (.int m.aw) (.int m.now) m.due m.dn m.hp (.bool m.hn) (.bool m.ov) m.ev (.bool m.en) (.int t) (.int k) = .row [.int 1, .int e, an', .bool af', .int aw', .bool ov', ev', .bool en', b', .bool m.bn, due', hp', .int now', dn', .bool hn'] ∧
  Inv S C T (n + 1) { m with an := an', af := af', aw := aw', ov := ov', ev := ev', en := en', b := b', now := now', dn := dn', hp := hp', due := due', hn := hn' } r' ∧ ((e = 0 ∧ ∃ i : Nat, k = i ∧ good S C T r t i ∧ r' = perf C T r t i) ∨ (e ≠ 0 ∧ r' = r ∧ ∀ i : Nat, k = i → ¬ good S C T r t i)) := by
 have nt := h.nt;have tm0 : 0 ≤ r.time := by obtain ⟨o, _, ti⟩ := h.o; have := ti.e0; have := ti.e1; omega
 have same : ∀ e : Int, e ≠ 0 → (∀ i : Nat, k = i → ¬ good S C T r t i) → Bc m.b (.bool m.bn) m.nm m.st (.bool m.stn) m.ct (.bool m.ctn) m.sp (.bool m.spn) m.an (.bool m.af) (.int m.aw) (.int m.now) m.due m.dn m.hp (.bool m.hn) (.bool m.ov) m.ev (.bool m.en) (.int t) (.int k) = .row [.int 1, .int e, m.an, .bool m.af, .int m.aw, .bool m.ov, m.ev, .bool m.en, m.b, .bool m.bn, m.due, m.hp, .int m.now, m.dn, .bool m.hn] →
  ∃ (an' : D) (af' : Bool) (aw' : Int) (ov' : Bool) (ev' : D) (en' : Bool) (b' : D) (now' : Int) (dn' hp' due' : D) (hn' : Bool) (r' : RS) (e : Int),
  Bc m.b (.bool m.bn) m.nm m.st (.bool m.stn) m.ct (.bool m.ctn) m.sp (.bool m.spn) m.an (.bool m.af) (.int m.aw) (.int m.now) m.due m.dn m.hp (.bool m.hn) (.bool m.ov) m.ev (.bool m.en) (.int t) (.int k) = .row [.int 1, .int e, an', .bool af', .int aw', .bool ov', ev', .bool en', b', .bool m.bn, due', hp', .int now', dn', .bool hn'] ∧
  Inv S C T (n + 1) { m with an := an', af := af', aw := aw', ov := ov', ev := ev', en := en', b := b', now := now', dn := dn', hp := hp', due := due', hn := hn' } r' ∧ ((e = 0 ∧ ∃ i : Nat, k = i ∧ good S C T r t i ∧ r' = perf C T r t i) ∨ (e ≠ 0 ∧ r' = r ∧ ∀ i : Nat, k = i → ¬ good S C T r t i)) :=
  fun e h0 h1 h2 => ⟨m.an, m.af, m.aw, m.ov, m.ev, m.en, m.b, m.now, m.dn, m.hp, m.due, m.hn, r, e, h2, h.mono (by omega), .inr ⟨h0, rfl, h1⟩⟩
 by_cases k0 : k < 0
 ·exact same 2 (by omega) (fun i hi => by omega) (by rw [I7 (h0 := rfl) (h1 := rfl) (h2 := rfl) (h3 := rfl) (h4 := rfl) (h5 := rfl), ifT k0])
 by_cases k1 : k < len T;rotate_left
 ·exact same 2 (by omega) (fun i hi g => by have := g.1; omega) (by rw [I7 (h0 := rfl) (h1 := rfl) (h2 := rfl) (h3 := rfl) (h4 := rfl) (h5 := rfl), ifF k0, ifF (by rw [Ba h.sp]; exact k1)])
 by_cases c0 : t < r.time
 ·exact same 3 (by omega) (fun i hi g => by have := g.2.1; omega) (by rw [I7 (h0 := rfl) (h1 := rfl) (h2 := rfl) (h3 := rfl) (h4 := rfl) (h5 := rfl), ifF k0, ifT (by rw [Ba h.sp]; exact k1), ifT (by omega)])
 by_cases c1 : 1099511627776 < t
 ·exact same 3 (by omega) (fun i hi g => by have := g.2.2.1; omega) (by rw [I7 (h0 := rfl) (h1 := rfl) (h2 := rfl) (h3 := rfl) (h4 := rfl) (h5 := rfl), ifF k0, ifT (by rw [Ba h.sp]; exact k1), ifF (by omega), ifT c1])
 obtain ⟨dn1, hp1, due1, out, hp2, due2, b1, on, w1, w2, w3, w4, w5⟩ := Nr h hn (t := t) (by omega) (by omega)
 obtain ⟨i, rfl⟩ : ∃ i : Nat, k = i := ⟨k.toNat, by omega⟩
 have it : i < len T := by omega
 have X : ∀ late ov, JN m.b (.bool m.bn) m.nm m.st (.bool m.stn) m.ct (.bool m.ctn) m.sp (.bool m.spn) m.an (.bool m.af) (.int m.aw) (.int m.now) m.due m.dn m.hp (.bool m.hn) (.bool ov) m.ev (.bool m.en) (.int t) due2 dn1 hp2 (.bool b1) (.bool late) (cl m.sp i 0) (cl m.sp i 1) (cl m.sp i 2) (cl m.sp i 3) (cl m.sp i 4) (cl m.sp i 5) (cl m.sp i 6) (cl m.sp i 7) (cl m.sp i 8) = .row [.int 1, .bool (Ej C r.vals T m.an late i)] := fun late ov => by
  simp only [Gl h.sp];exact Up (bn := m.bn) h.rk h.bk it m.nm m.st m.ct m.sp m.an m.due m.dn m.hp m.ev due2 dn1 hp2 m.stn m.ctn m.spn m.af m.hn ov m.en b1 late m.aw m.now t
 have G := QI h w5 it (by omega) (by omega)
 cases hc : Ej C r.vals T m.an (m.ov || decide (0 < (len out : Int))) i with
 | false =>
  refine same 8 (by omega) (fun j hj => ?_) ?_
  ·have : j = i := by omega
   subst this;rw [G, hc];exact fun c => nomatch c
  cases hov : m.ov with
  | true =>
   rw [hov, Bool.true_or] at hc;rw [I7 (h0 := w1) (h1 := w2) (h2 := rfl) (h3 := rfl) (h4 := rfl) (h5 := X true true), ifF k0, ifT (by rw [Ba h.sp]; exact k1), ifF (by omega), ifF c1, hc]
   rfl
  | false =>
   rw [hov, Bool.false_or] at hc;rw [I7 (h0 := w1) (h1 := w2) (h2 := rfl) (h3 := rfl) (h4 := X (decide (0 < (len out : Int))) false) (h5 := rfl), ifF k0, ifT (by rw [Ba h.sp]; exact k1), ifF (by omega), ifF c1, hc]
   rfl
 | true =>
  have g := G.2 hc;cases hov : m.ov with
  | true =>
   rw [hov, Bool.true_or] at hc w4 w5;obtain ⟨an', af', aw', b', dn', hp', due', hn', p1, p3⟩ := Fb h hn (t := t) (by omega) (by omega) w5 w3 w4 it hc true
   refine ⟨an', af', aw', false, ad m.ev (.row [.int i, .int t]), false, b', t, dn', hp', due', hn', perf C T r t i, 0, ?_, p3, .inl ⟨rfl, i, rfl, g, rfl⟩⟩;rw [I7 (h0 := w1) (h1 := w2) (h2 := rfl) (h3 := p1) (h4 := rfl) (h5 := X true true), ifF k0, ifT (by rw [Ba h.sp]; exact k1), ifF (by omega), ifF c1, hc]
   rfl
  | false =>
   rw [hov, Bool.false_or] at hc w4 w5;obtain ⟨an', af', aw', b', dn', hp', due', hn', p1, p3⟩ := Fb h hn (t := t) (by omega) (by omega) w5 w3 w4 it hc false
   refine ⟨an', af', aw', false, ad m.ev (.row [.int i, .int t]), false, b', t, dn', hp', due', hn', perf C T r t i, 0, ?_, p3, .inl ⟨rfl, i, rfl, g, rfl⟩⟩;rw [I7 (h0 := w1) (h1 := w2) (h2 := p1) (h3 := rfl) (h4 := X (decide (0 < (len out : Int))) false) (h5 := rfl), ifF k0, ifT (by rw [Ba h.sp]; exact k1), ifF (by omega), ifF c1, hc]
   rfl
end
end Mr
namespace Mr
open Go Go.AE
section
variable [Ao]
variable {S C T N : D} {n : Nat} {m : MS} {r : RS}
theorem Sr (h : Inv S C T n m r) {t : Int} {late : Bool} {sp' : D} {sb : Bool} (hs : sp'.rows = T.rows) (ov : Bool) (dn1 hp2 due2 msg peer : D) (b1 : Bool) :
  ∀ (k j : Nat), j + k = len T →
   (∃ i : Nat, i < len T ∧ Ej C r.vals T m.an late i = true ∧ Hs sp' (.bool sb) (.int j) msg peer (.int (-1)) (.bool late) m.nm m.st (.bool m.stn) m.ct (.bool m.ctn) m.sp (.bool m.spn) m.an (.bool m.af) (.int m.aw) (.bool ov) m.ev (.bool m.en) m.b (.bool m.bn) (.int m.now) m.dn m.hp (.bool m.hn) m.due (.int t) dn1 hp2 (.bool b1) due2 m.an = .row [.int 1, .int i]) ∨
   (Hs sp' (.bool sb) (.int j) msg peer (.int (-1)) (.bool late) m.nm m.st (.bool m.stn) m.ct (.bool m.ctn) m.sp (.bool m.spn) m.an (.bool m.af) (.int m.aw) (.bool ov) m.ev (.bool m.en) m.b (.bool m.bn) (.int m.now) m.dn m.hp (.bool m.hn) m.due (.int t) dn1 hp2 (.bool b1) due2 m.an = .row [.int 2]) := by
 intro k
 induction k with
 | zero =>
  intro j hj;right;rw [Wn, ifF (by rw [Ba hs]; omega)]
 | succ k ih =>
  intro j hj;have tl := h.rk.t1;have A := Up (bn := m.bn) h.rk h.bk (k := j) (by omega) m.nm m.st m.ct m.sp m.an m.due m.dn m.hp m.ev due2 dn1 hp2 m.stn m.ctn m.spn m.af m.hn ov m.en b1 late m.aw m.now t
  have Nn := ih (j + 1) (by omega)
  rw [Wn, ifT (by rw [Ba hs]; omega), ifF (by omega)]
  simp only [Gl hs];rw [A, CZ (i := j) (by omega)]
  simp only [EO, EG, tI, tB, decide_true, cond_true];cases hc : Ej C r.vals T m.an late j with
  | false =>
   simp only [cond_false];cases D.strEq (cl T j 0) m.an <;> cases decide ((cl T j 2).toInt = 2) <;> cases D.strEq (cl T j 3) msg <;> cases D.strEq (cl T j 4) peer <;> exact Nn
  | true =>
   have hc' := hc;unfold Ej at hc';simp only [Bool.and_eq_true] at hc';rw [hc'.1];simp only [cond_true];cases decide ((cl T j 2).toInt = 2)
   ·exact Nn
   cases D.strEq (cl T j 3) msg
   ·exact Nn
   cases D.strEq (cl T j 4) peer
   ·exact Nn
   exact .inl ⟨j, by omega, hc, rfl⟩
theorem OR (h : Inv S C T n m r) (hn : n < 900) (t : Int) (msg peer : D) : ∃ (an' : D) (af' : Bool) (aw' : Int) (ov' : Bool) (ev' : D) (en' : Bool) (b' : D) (now' : Int) (dn' hp' due' : D) (hn' : Bool) (r' : RS) (w e : Int),
  N4 m.b (.bool m.bn) m.nm m.st (.bool m.stn) m.ct (.bool m.ctn) m.sp (.bool m.spn) m.an (.bool m.af) (.int m.aw) (.int m.now) m.due m.dn m.hp (.bool m.hn) (.bool m.ov) m.ev (.bool m.en) (.int t) msg peer = .row [.int 1, .int w, .int e, an', .bool af', .int aw', .bool ov', ev', .bool en', b', .bool m.bn, due', hp', .int now', dn', .bool hn'] ∧
  Inv S C T (n + 1) { m with an := an', af := af', aw := aw', ov := ov', ev := ev', en := en', b := b', now := now', dn := dn', hp := hp', due := due', hn := hn' } r' ∧ (r' = r ∨ ∃ i : Nat, good S C T r t i ∧ r' = perf C T r t i) := by
 have nt := h.nt;have tm0 : 0 ≤ r.time := by obtain ⟨o, _, ti⟩ := h.o; have := ti.e0; have := ti.e1; omega
 have same : ∀ e : Int, N4 m.b (.bool m.bn) m.nm m.st (.bool m.stn) m.ct (.bool m.ctn) m.sp (.bool m.spn) m.an (.bool m.af) (.int m.aw) (.int m.now) m.due m.dn m.hp (.bool m.hn) (.bool m.ov) m.ev (.bool m.en) (.int t) msg peer = .row [.int 1, .int 0, .int e, m.an, .bool m.af, .int m.aw, .bool m.ov, m.ev, .bool m.en, m.b, .bool m.bn, m.due, m.hp, .int m.now, m.dn, .bool m.hn] →
  ∃ (an' : D) (af' : Bool) (aw' : Int) (ov' : Bool) (ev' : D) (en' : Bool) (b' : D) (now' : Int) (dn' hp' due' : D) (hn' : Bool) (r' : RS) (w e : Int),
  N4 m.b (.bool m.bn) m.nm m.st (.bool m.stn) m.ct (.bool m.ctn) m.sp (.bool m.spn) m.an (.bool m.af) (.int m.aw) (.int m.now) m.due m.dn m.hp (.bool m.hn) (.bool m.ov) m.ev (.bool m.en) (.int t) msg peer = .row [.int 1, .int w, .int e, an', .bool af', .int aw', .bool ov', ev', .bool en', b', .bool m.bn, due', hp', .int now', dn', .bool hn'] ∧
  Inv S C T (n + 1) { m with an := an', af := af', aw := aw', ov := ov', ev := ev', en := en', b := b', now := now', dn := dn', hp := hp', due := due', hn := hn' } r' ∧ (r' = r ∨ ∃ i : Nat, good S C T r t i ∧ r' = perf C T r t i) :=
  fun e h1 => ⟨m.an, m.af, m.aw, m.ov, m.ev, m.en, m.b, m.now, m.dn, m.hp, m.due, m.hn, r, 0, e, h1, h.mono (by omega), .inl rfl⟩
 by_cases c0 : t < r.time
 ·exact same 3 (by rw [L9 (h0 := rfl) (h1 := rfl) (h2 := rfl) (h3 := rfl) (h4 := rfl) (h5 := rfl) (h6 := rfl), ifT (by omega)])
 by_cases c1 : 1099511627776 < t
 ·exact same 3 (by rw [L9 (h0 := rfl) (h1 := rfl) (h2 := rfl) (h3 := rfl) (h4 := rfl) (h5 := rfl) (h6 := rfl), ifF (by omega), ifT c1])
 obtain ⟨dn1, hp1, due1, out, hp2, due2, b1, on, w1, w2, w3, w4, w5⟩ := Nr h hn (t := t) (by omega) (by omega)
 obtain ⟨sp', sb, s1, s2⟩ := Mn h;have Z := Sr h (t := t) (late := m.ov || decide (0 < (len out : Int))) (sp' := sp') (sb := sb) s2 m.ov dn1 hp2 due2 msg peer b1 (len T) 0 (by omega)
 rcases Z with ⟨i, hi, hc, z1⟩ | z1
 ·have g := (QI h w5 hi (by omega) (by omega)).2 hc
  cases hov : m.ov with
  | true =>
   rw [hov, Bool.true_or] at hc w4 w5 z1;obtain ⟨an', af', aw', b', dn', hp', due', hn', p1, p3⟩ := Fb h hn (t := t) (by omega) (by omega) w5 w3 w4 hi hc true
   refine ⟨an', af', aw', false, ad m.ev (.row [.int i, .int t]), false, b', t, dn', hp', due', hn', perf C T r t i, i, 0, ?_, p3, .inr ⟨i, g, rfl⟩⟩;have z3 : Ke msg peer (.int (-1)) m.b (.bool m.bn) m.nm m.st (.bool m.stn) m.ct (.bool m.ctn) m.sp (.bool m.spn) m.an (.bool m.af) (.int m.aw) (.int m.now) m.due m.dn m.hp (.bool m.hn) (.bool true) m.ev (.bool m.en) (.int t) due2 dn1 hp2 (.bool b1) (.bool true) sp' (.bool sb) m.an = .row [.int 1, .int i] := (Qj ..).trans z1;rw [L9 (h0 := w1) (h1 := w2) (h2 := s1) (h3 := rfl) (h4 := z3) (h5 := rfl) (h6 := p1), ifF (by omega), ifF c1]
   simp only [EO, EG, tI, tB, decide_true, cond_true];rw [iF (by omega)]
  | false =>
   rw [hov, Bool.false_or] at hc w4 w5 z1;obtain ⟨an', af', aw', b', dn', hp', due', hn', p1, p3⟩ := Fb h hn (t := t) (by omega) (by omega) w5 w3 w4 hi hc false
   refine ⟨an', af', aw', false, ad m.ev (.row [.int i, .int t]), false, b', t, dn', hp', due', hn', perf C T r t i, i, 0, ?_, p3, .inr ⟨i, g, rfl⟩⟩;have z3 : Ke msg peer (.int (-1)) m.b (.bool m.bn) m.nm m.st (.bool m.stn) m.ct (.bool m.ctn) m.sp (.bool m.spn) m.an (.bool m.af) (.int m.aw) (.int m.now) m.due m.dn m.hp (.bool m.hn) (.bool false) m.ev (.bool m.en) (.int t) due2 dn1 hp2 (.bool b1) (.bool (decide (0 < (len out : Int)))) sp' (.bool sb) m.an = .row [.int 1, .int i] := (Qj ..).trans z1;rw [L9 (h0 := w1) (h1 := w2) (h2 := s1) (h3 := z3) (h4 := rfl) (h5 := p1) (h6 := rfl), ifF (by omega), ifF c1]
   simp only [EO, EG, tI, tB, decide_true, cond_true, cond_false];rw [iF (by omega)]
 ·refine same 9 ?_;cases hov : m.ov with
  | true =>
   rw [hov, Bool.true_or] at z1;have z3 : Ke msg peer (.int (-1)) m.b (.bool m.bn) m.nm m.st (.bool m.stn) m.ct (.bool m.ctn) m.sp (.bool m.spn) m.an (.bool m.af) (.int m.aw) (.int m.now) m.due m.dn m.hp (.bool m.hn) (.bool true) m.ev (.bool m.en) (.int t) due2 dn1 hp2 (.bool b1) (.bool true) sp' (.bool sb) m.an = .row [.int 2] := (Qj ..).trans z1;rw [L9 (h0 := w1) (h1 := w2) (h2 := s1) (h3 := rfl) (h4 := z3) (h5 := rfl) (h6 := rfl), ifF (by omega), ifF c1]
   rfl
  | false =>
   rw [hov, Bool.false_or] at z1;have z3 : Ke msg peer (.int (-1)) m.b (.bool m.bn) m.nm m.st (.bool m.stn) m.ct (.bool m.ctn) m.sp (.bool m.spn) m.an (.bool m.af) (.int m.aw) (.int m.now) m.due m.dn m.hp (.bool m.hn) (.bool false) m.ev (.bool m.en) (.int t) due2 dn1 hp2 (.bool b1) (.bool (decide (0 < (len out : Int)))) sp' (.bool sb) m.an = .row [.int 2] := (Qj ..).trans z1;rw [L9 (h0 := w1) (h1 := w2) (h2 := s1) (h3 := z3) (h4 := rfl) (h5 := rfl) (h6 := rfl), ifF (by omega), ifF c1]
   rfl
end
end Mr
namespace Mr
open Go Go.AE
section
variable [Ao]
variable {S C T N : D}
def bL (C : D) : Nat → D
 | 0 => AN
 | i + 1 => ad (bL C i) (.row [cl C i 0, cl C i 1, .int 0])
def dL (C : D) : Nat → D
 | 0 => AN
 | i + 1 => ad (dL C i) (.row [cl C i 0, cl C i 1])
def zL : Nat → D
 | 0 => AN
 | i + 1 => ad (zL i) (.row [.int 0])
theorem Mx : ∀ i, len (bL C i) = i
 | 0 => rfl
 | i + 1 => by rw [bL, BD, Mx]
theorem Pa : ∀ i, len (dL C i) = i
 | 0 => rfl
 | i + 1 => by rw [dL, BD, Pa]
theorem Pd : ∀ i, len (zL i) = i
 | 0 => rfl
 | i + 1 => by rw [zL, BD, Pd]
theorem WO : ∀ i, Wd (bL C i) 3
 | 0 => JA
 | i + 1 => Uz (WO i) rfl
theorem Wq : ∀ i, Wd (zL i) 1
 | 0 => JA
 | i + 1 => Uz (Wq i) rfl
theorem NL : ∀ i j : Nat, j < i → cl (bL C i) j 0 = cl C j 0 ∧ cl (bL C i) j 1 = cl C j 1 ∧ cl (bL C i) j 2 = .int 0
 | 0, j, h => by omega
 | i + 1, j, h => by
  rw [bL, BW (by omega), BW (by omega), BW (by omega), Mx]
  by_cases q : (j : Int) = i
  ·rw [if_pos q, if_pos q, if_pos q, q]; exact ⟨rfl, rfl, rfl⟩
  ·rw [if_neg q, if_neg q, if_neg q]; exact NL i j (by omega)
theorem UD : ∀ i j : Nat, j < i → cl (dL C i) j 0 = cl C j 0 ∧ cl (dL C i) j 1 = cl C j 1
 | 0, j, h => by omega
 | i + 1, j, h => by
  rw [dL, BW (by omega), BW (by omega), Pa]
  by_cases q : (j : Int) = i
  ·rw [if_pos q, if_pos q, q]; exact ⟨rfl, rfl⟩
  ·rw [if_neg q, if_neg q]; exact UD i j (by omega)
theorem Wz : ∀ i j : Nat, j < i → cl (zL i) j 0 = .int 0
 | 0, j, h => by omega
 | i + 1, j, h => by
  rw [zL, BW (by omega), Pd]
  by_cases q : (j : Int) = i
  ·rw [if_pos q]; rfl
  ·rw [if_neg q]; exact Wz i j (by omega)
theorem Yn (rk : Rk S C T) {i j : Nat} (hi : i < len C) (hj : j < i) : D.strEq (cl C j 0) (cl C i 0) = false := by
 have e := rk.cid i hi;unfold fd at e;exact Na (p := fun j => D.strEq (cl C j 0) (cl C i 0)) (k := len C) (i := 0) (j := j) (Nat.zero_le _) (.inl (by rw [e]; omega))
theorem Xe (rk : Rk S C T) : Cl C = .row [.int 1, bL C (len C), .bool (decide (len C = 0))] := by
 have c1 := rk.c1
 have E : ∀ k i, i + k = len C → Qk C (.int (i : Nat)) (bL C i) (.bool (decide (i = 0))) = .row [.int 1, bL C (len C), .bool (decide (len C = 0))] := by
  intro k
  induction k with
  | zero =>
   intro i hi;have : i = len C := by omega
   subst this;rw [WM, ifF (by omega)]
  | succ k ih =>
   intro i hi;have l := rk.lim i (by omega)
   have b := Mx (C := C) i
   have z : fd (bL C i) (cl C i 0) = -1 := by
    unfold fd;rw [b];exact VX fun j _ hj => by rw [(NL i j (by omega)).1]; exact Yn rk (by omega) (by omega)
   have F := M0 (b := bL C i) (bn := decide (i = 0)) (by omega) (cl C i 0)
   rw [z] at F;have nx := ih (i + 1) (by omega)
   rw [decide_eq_false (show ¬ i + 1 = 0 by omega)] at nx
   rw [WM, ifT (by omega), ifF (by omega), cF (rk.cne i (by omega)), ifF (by omega), ifF (by omega), F, ifT (p := (len (bL C i) : Int) < 1073741824) (by omega)]
   simp only [EO, EG, tI, decide_true, cond_true];rw [iT (by omega), CZ (i := i) (by omega)]
   exact nx
 rw [aD, ifF (by omega)]
 exact E (len C) 0 (by omega)
def Gx (a : D) : Prop := a.isNil = true → a.rows = []
theorem U8 (h : Gx S) (hs : len S < 1000) : ∃ (l : D) (b : Bool), Cr S = .row [.int 1, l, .bool b] ∧ l.rows = S.rows ∧ (b = true → S.rows = []) := by
 rw [bO];cases q : S.isNil
 ·rw [cF rfl, ifT (by omega)]; exact ⟨ct AZ S, false, rfl, rfl, (fun c => nomatch c)⟩
 ·exact ⟨AN, true, rfl, (h q).symm, fun _ => h q⟩
theorem V9 (h : Gx S) (hs : len S < 1000) : ∃ (l : D) (b : Bool), Cq S = .row [.int 1, l, .bool b] ∧ l.rows = S.rows ∧ (b = true → S.rows = []) := by
 rw [da];cases q : S.isNil
 ·rw [cF rfl, ifT (by omega)]; exact ⟨ct AZ S, false, rfl, rfl, (fun c => nomatch c)⟩
 ·exact ⟨AN, true, rfl, (h q).symm, fun _ => h q⟩
theorem U9 (h : Gx S) (hs : len S < 1000) : ∃ (l : D) (b : Bool), Cj S = .row [.int 1, l, .bool b] ∧ l.rows = S.rows ∧ (b = true → S.rows = []) := by
 rw [YZ];cases q : S.isNil
 ·rw [cF rfl, ifT (by omega)]; exact ⟨ct AZ S, false, rfl, rfl, (fun c => nomatch c)⟩
 ·exact ⟨AN, true, rfl, (h q).symm, fun _ => h q⟩
theorem WY (rk : Rk S C T) (so : VF S) (n1 : Gx S) (n2 : Gx C) (n3 : Gx T) (hs : JY N S C T = 0) : ∃ (m : MS) (r : RS),
  AX N S C T = .row [.int 1, N, m.st, .bool m.stn, m.ct, .bool m.ctn, m.sp, .bool m.spn, m.an, .bool m.af, .int m.aw, AN, m.b, .bool m.bn, m.dn, m.hp, .bool m.hn, m.due] ∧
  Inv S C T 1 m r ∧
  m.nm = N ∧ m.now = 0 ∧ m.ov = false ∧ m.ev = AN ∧ m.en = true ∧ r.ent = 0 ∧ r.time = 0 ∧ r.evs = AN ∧ (m.stn = true → S.rows = []) ∧ (m.ctn = true → C.rows = []) := by
 have s0 := rk.s0;have s1 := rk.s1;have c1 := rk.c1;have t1 := rk.t1;obtain ⟨i9, q9⟩ := Ws (v1 := S) (v2 := C) rk.tI (by omega) s1 (by omega) N
 rw [hs] at q9;obtain ⟨a12, b12, q12, r12, z12⟩ := U8 n1 (by omega)
 obtain ⟨a13, b13, q13, r13, z13⟩ := V9 n2 (by omega)
 obtain ⟨a14, b14, q14, r14, z14⟩ := U9 n3 (by omega)
 have q11 := Xe rk;have k0 : fd S (cl S (0 : Nat) 0) = (0 : Nat) := rk.sid 0 s0;have k0 : fd S (cl S 0 0) = 0 := k0;have ck : CK AZ (.bool true) AN true none := ⟨rfl, JA, fun j hj => by rw [CO] at hj; omega, fun _ => rfl, fun d c => nomatch c⟩
 obtain ⟨af', aw', dn', hp', due', hn', e1, e2, e3, e4, e5⟩ := NQ so s1 rk.wt (st := a12) (stn := b12) r12 ck (now := 0) (by rw [CO]; omega) (by omega) (by omega) (key := cl S 0 0) (by omega) (bL C (len C)) N a13 a14 (Ni 0 0) AN (decide (len C = 0)) b13 b14 false false true 0
 rw [k0] at e1 e2 e3;rw [CO] at e4;have bk : Bk (bL C (len C)) C (zL (len C)) := ⟨Mx _, Pd _, WO _, Wq _, fun j hj => (NL _ j hj).1, fun j hj => (NL _ j hj).2.1, fun j hj => ⟨0, (NL _ j hj).2.2, Wz _ j hj, by omega, by have := rk.lim j hj; omega⟩⟩
 have df : Df (dL C (len C)) C := ⟨Pa _, fun j hj => (UD _ j hj).1, fun j hj => (UD _ j hj).2⟩
 refine ⟨⟨bL C (len C), decide (len C = 0), N, a12, b12, a13, b13, a14, b14, cl S 0 0, af', aw', 0, due', dn', hp', hn', false, AN, true⟩, ⟨cl S 0 0, 0, dL C (len C), zL (len C), 0, AN⟩, ?_, ?_, rfl, rfl, rfl, rfl, rfl, rfl, rfl, rfl, z12, z13⟩
 ·rw [WH, q9, q11, q12, q13, q14];simp only [EO, EG, tI, tB, decide_true, cond_true];rw [iT (by omega)]
  rw [e3];rfl
 ·exact ⟨rk, so, r12, r13, r14, z14, bk, fun c => dT c, df, by show 0 ≤ fd S (cl S 0 0); omega, IN, by show cl S (fd S (cl S 0 0)) 1 = _; rw [k0]; exact e1, by show cl S (fd S (cl S 0 0)) 2 = _; rw [k0]; exact e2, rfl, e5, by show len hp' ≤ 1; omega, rfl, fun j hj => (by have hj : j < len AN := hj; rw [CO] at hj; omega), fun _ => rfl, by show len AN ≤ 1; rw [CO]; omega⟩
end
end Mr

