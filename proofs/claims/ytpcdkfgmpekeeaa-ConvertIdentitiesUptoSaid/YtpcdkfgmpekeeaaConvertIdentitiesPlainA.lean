/- What is proved: what the plain functions over data say, whose trees the text before writes out: the law ConvertIdentities answers true. Conditions: those that each theorem states. -/
import Derived.Test.YtpcdkfgmpekeeaaConvertIdentitiesTree
set_option linter.unusedVariables false
set_option linter.unusedSectionVars false
set_option linter.unusedSimpArgs false
namespace Go.AE
section
variable [Ap]
def atV (Ts : List (List (Tr Plf))) (xs : List D) : Val := Jp (An Ts) xs
def fin (Ts : List (List (Tr Plf))) (k : Nat) (V : Val) : Plf → D
 | .stuck => .row []
 | .done s cs => .row (.int (s + 1 : Nat) :: cs.map (Ab V))
 | .next j θ => An Ts k (.row (.int j :: θ.map (Ab V)))
def P6 (Ts : List (List (Tr Plf))) (k : Nat) (V : Val) (t : Tr Plf) : D := fin Ts k V (t.get V)
theorem iI {Ts : List (List (Tr Plf))} (h : GW 0 Ts = true) {k p : Nat} {T : List (Tr Plf)} {t : Tr Plf} {xs : List D} (hk : Ts[k]? = some T) (hp : T[p]? = some t) :
  An Ts k (.row (.int (p : Nat) :: xs)) = P6 Ts k (atV Ts xs) t := by
 have hd : CI T (An Ts) (.row (.int (p : Nat) :: xs)) = C5 (atV Ts xs) (t.get (atV Ts xs)) := by
  show (match T[p]? with | some t => C5 _ (t.get _) | none => none) = _
  rw [hp];rfl
 unfold P6 fin;split
 ·rename_i e;rw [e] at hd;rw [Ar h hk];rcases Ew (CI T (An Ts)) (.row (.int (p : Nat) :: xs)) with q | ⟨n, q⟩
  ·exact q
  ·cases n with
   | zero => cases q
   | succ n =>
    simp only [EA, hd] at q;cases q
 ·rename_i e;rw [e] at hd;rw [Ar h hk];exact Ou hd
 ·rename_i e;rw [e] at hd;rw [Ar h hk, Ok hd, ← Ar h hk]
theorem QA {Ts : List (List (Tr Plf))} {k : Nat} {V : Val} {e : SB} {a b : Tr Plf} : P6 Ts k V (.split e a b) = if Ad V e = true then P6 Ts k V a else P6 Ts k V b := by
 unfold P6;rw [show (Tr.split e a b).get V = match Ad V e with | true => a.get V | false => b.get V from rfl]
 cases Ad V e <;> rfl
end
theorem BD {a : Int} (h : -9223372036854775808 ≤ a) (h' : a < 9223372036854775808) : IntKind.wrap .i64 a = a := by
 show (if (true && decide (a % (2 ^ 64 : Int) ≥ 2 ^ 63)) = true then a % (2 ^ 64 : Int) - 2 ^ 64 else a % (2 ^ 64 : Int)) = a
 split
 ·rename_i q;simp only [Bool.true_and, decide_eq_true_eq] at q;omega
 ·rename_i q;simp only [Bool.true_and, decide_eq_true_eq] at q;omega
def len (d : D) : Nat := d.rows.length
def B9 (d : D) : Nat := d.toStr.data.toList.length
def cl (a : D) (i : Int) (j : Nat) : D := (a.rows.getD i.toNat default).cells.getD j default
def sl (a : D) (j : Nat) : D := a.cells.getD j default
def A3 : D := .slc true []
def Aw : D := .slc false []
def ad (a r : D) : D := .slc false (a.rows ++ [r])
def upd (a : D) (i : Int) (j : Nat) (x : D) : D := .slc a.isNil (a.rows.modify i.toNat fun r => .row (r.cells.set j x))
def ct (a b : D) : D := .slc (a.isNil && b.rows.isEmpty) (a.rows ++ b.rows)
def sb (a : D) (lo hi : Int) : D := .slc a.isNil ((a.rows.drop lo.toNat).take (hi.toNat - lo.toNat))
def Fr (l b : Nat) : D := .str ⟨(CQ l b).toArray⟩
def WP (a b : D) : D := .str (a.toStr ++ b.toStr)
def OW (a : D) : D := .slc false (a.toStr.data.toList.map fun b => .row [.int b.toNat])
def mIx (ks : List Kd) (a k : D) : Int := DK ks k.cells a.rows 0
def sAt (a : D) (i : Int) : Int := ((a.toStr.data.toList[i.toNat]?).getD 0).toNat
def eqC (a : D) (l b : Nat) : Bool := strEq a.toStr.data.toList.length (AC a.toStr.data.toList) l b
theorem ifT {α : Type} {p : Prop} [Decidable p] {a b : α} (h : p) : cond (decide p) a b = a := by rw [decide_eq_true h]; rfl
theorem ifF {α : Type} {p : Prop} [Decidable p] {a b : α} (h : ¬ p) : cond (decide p) a b = b := by rw [decide_eq_false h]; rfl
theorem cT {α : Type} {c : Bool} {a b : α} (h : c = true) : cond c a b = a := by rw [h]; rfl
theorem cF {α : Type} {c : Bool} {a b : α} (h : c = false) : cond c a b = b := by rw [h]; rfl
section
variable [Ap]
def Dy (Ts : List (List (Tr Plf))) (k : Nat) (V : Val) : Tr Plf → D
 | .leaf l => fin Ts k V l
 | .split e a b => cond (Ad V e) (Dy Ts k V a) (Dy Ts k V b)
theorem It {Ts : List (List (Tr Plf))} {k : Nat} {V : Val} : ∀ t : Tr Plf, P6 Ts k V t = Dy Ts k V t
 | .leaf l => rfl
 | .split e a b => by
  rw [QA, It a, It b, Dy];cases Ad V e <;> rfl
theorem Y3 {Ts : List (List (Tr Plf))} (h : GW 0 Ts = true) {k p : Nat} {T : List (Tr Plf)} {t : Tr Plf} {xs : List D} (hk : Ts[k]? = some T) (hp : T[p]? = some t) :
  An Ts k (.row (.int (p : Nat) :: xs)) = Dy Ts k (atV Ts xs) t := (iI h hk hp).trans (It t)
theorem cg {Ts : List (List (Tr Plf))} {k : Nat} {V : Val} {e : SB} {a b : Tr Plf} {c : Bool} {x y : D} (h : Ad V e = c) (ha : Dy Ts k V a = x) (hb : Dy Ts k V b = y) : Dy Ts k V (.split e a b) = cond c x y := by
 rw [Dy, h, ha, hb]
end
theorem lE {V : Val} {a b : SE} {x y : Int} (h : (Ab V a).toInt = x) (h' : (Ab V b).toInt = y) : Ad V (.lss a b) = decide (x < y) := by rw [← h, ← h']; rfl
theorem qE {V : Val} {a b : SE} {x y : Int} (h : (Ab V a).toInt = x) (h' : (Ab V b).toInt = y) : Ad V (.eql a b) = decide (x = y) := by rw [← h, ← h']; rfl
section
variable [Ap]
theorem cL {Ts : List (List (Tr Plf))} {k : Nat} {V : Val} {e f : SE} {a b : Tr Plf} {m n : Int} {x y : D} (ha : Dy Ts k V a = x) (hb : Dy Ts k V b = y) (h : (Ab V e).toInt = m := by rfl) (h' : (Ab V f).toInt = n := by rfl) : Dy Ts k V (.split (.lss e f) a b) = cond (decide (m < n)) x y := cg (lE h h') ha hb
theorem cQ {Ts : List (List (Tr Plf))} {k : Nat} {V : Val} {e f : SE} {a b : Tr Plf} {m n : Int} {x y : D} (ha : Dy Ts k V a = x) (hb : Dy Ts k V b = y) (h : (Ab V e).toInt = m := by rfl) (h' : (Ab V f).toInt = n := by rfl) : Dy Ts k V (.split (.eql e f) a b) = cond (decide (m = n)) x y := cg (qE h h') ha hb
end
theorem aE {V : Val} {a b : SE} {x y : Bool} (h : Ad V a = x) (h' : Ad V b = y) : Ad V (.and a b) = (x && y) := by rw [← h, ← h']; rfl
def Wd (a : D) (n : Nat) : Prop := ∀ r ∈ a.rows, ∃ cs, r = .row cs ∧ cs.length = n
theorem VZ {a x : D} {i : Int} {j : Nat} : len (upd a i j x) = len a := by
 show (a.rows.modify _ _).length = _;simp [len]
theorem Bw {a r : D} : len (ad a r) = len a + 1 := by
 show (a.rows ++ [r]).length = _;simp [len]
theorem Bv : len Aw = 0 := rfl
theorem O1 {a : D} {lo hi : Int} (h : lo.toNat ≤ hi.toNat) (h' : hi.toNat ≤ len a) : len (sb a lo hi) = hi.toNat - lo.toNat := by
 show ((a.rows.drop _).take _).length = _;have : hi.toNat ≤ a.rows.length := h';simp;omega
theorem As {x : D} {l : List D} : sl (.row (x :: l)) 0 = x := rfl
theorem Au {x : D} {l : List D} {n : Nat} : sl (.row (x :: l)) (n + 1) = sl (.row l) n := rfl
theorem Ah {n : Int} : (D.int n).toInt = n := rfl
theorem Ai {b : Bool} : (D.bool b).toBool = b := rfl
theorem Ep {n : Nat} : Wd Aw n := fun r hr => (by cases hr)
theorem GD {a : D} {cs : List D} {n : Nat} (h : Wd a n) (hc : cs.length = n) : Wd (ad a (.row cs)) n := by
 intro r hr;have hr : r ∈ a.rows ++ [.row cs] := hr;rcases List.mem_append.1 hr with q | q
 ·exact h r q
 ·exact ⟨cs, List.mem_singleton.1 q, hc⟩
theorem Zt {a x : D} {i : Int} {j n : Nat} (h : Wd a n) : Wd (upd a i j x) n := by
 intro r hr;have hr' : r ∈ a.rows.modify i.toNat fun r => .row (r.cells.set j x) := hr
 obtain ⟨k, hk, e⟩ := List.getElem_of_mem hr';rw [List.getElem_modify] at e;have hk' : k < a.rows.length := by simpa using hk
 obtain ⟨cs, hc, hn⟩ := h _ (List.getElem_mem hk');split at e
 ·rw [hc] at e;exact ⟨_, e.symm, by simp [D.cells, hn]⟩
 ·exact ⟨cs, by rw [← e]; exact hc, hn⟩
theorem UK {a x : D} {i k : Int} {j j' n : Nat} (h : Wd a n) (hj : j < n) (hi : 0 ≤ i) (hi' : i < len a) (hk : 0 ≤ k) : cl (upd a i j x) k j' = if k = i ∧ j' = j then x else cl a k j' := by
 have hi2 : i.toNat < a.rows.length := by have : len a = a.rows.length := rfl; omega
 show ((a.rows.modify i.toNat fun r => D.row (r.cells.set j x))[k.toNat]?.getD default).cells.getD j' default = _
 rw [List.getElem?_modify];by_cases q : k = i
 ·subst q;obtain ⟨cs, hc, hn⟩ := h _ (List.getElem_mem hi2);rw [List.getElem?_eq_getElem hi2];show ((if k.toNat = k.toNat then D.row ((a.rows[k.toNat]).cells.set j x) else a.rows[k.toNat]).cells[j']?).getD default = _
  rw [if_pos rfl, hc];show ((cs.set j x)[j']?).getD default = _;rw [List.getElem?_set];by_cases q' : j = j'
  ·subst q';rw [if_pos rfl, if_pos (by omega), if_pos ⟨rfl, rfl⟩]
   rfl
  ·rw [if_neg q', if_neg (fun c => q' c.2.symm)]
   show _ = (a.rows[k.toNat]?.getD default).cells.getD j' default;rw [List.getElem?_eq_getElem hi2, Option.getD_some, hc];rfl
 ·have q2 : ¬ i.toNat = k.toNat := by omega
  rw [if_neg (fun c => q c.1)]
  simp [q2, cl]
theorem XN {a r : D} {k : Int} {j : Nat} (hk : 0 ≤ k) : cl (ad a r) k j = if k = len a then sl r j else cl a k j := by
 have hl : len a = a.rows.length := rfl;show ((a.rows ++ [r])[k.toNat]?.getD default).cells.getD j default = _;by_cases q : k.toNat < a.rows.length
 ·rw [List.getElem?_append_left q, if_neg (by omega)]
  rfl
 ·by_cases q' : k = len a
  ·subst q';rw [if_pos rfl];have : ((len a : Int)).toNat = a.rows.length := by omega
   rw [this];simp [sl]
  ·rw [if_neg q', List.getElem?_eq_none (by simp; omega)]
   show _ = (a.rows[k.toNat]?.getD default).cells.getD j default;rw [List.getElem?_eq_none (by omega)]
theorem GI.cell {K : TypeId → Option (List Kd)} {m j : Nat} {e : TypeId} {ks : List Kd} {kd : Kd} {d : D} {i : Int} (h : GI K (m + 1) (.slice e) d) (hk : K e = some ks) (h0 : 0 ≤ i) (hi : i < len d) (hj : ks[j]? = some kd) : GI K m kd (cl d i j) := by
 obtain ⟨nl, rows, rfl, _, q⟩ := h;have hi' : i.toNat < rows.length := by have : len (.slc nl rows) = rows.length := rfl; omega
 obtain ⟨cs, e1, _, e3⟩ := q ks hk _ (List.getElem_mem hi');show GI K m kd ((rows[i.toNat]?.getD default).cells.getD j default);rw [List.getElem?_eq_getElem hi', Option.getD_some, e1];exact e3 j kd hj
theorem GI.toI {K : TypeId → Option (List Kd)} {m : Nat} {k : IntKind} {d : D} (h : GI K m (.int k) d) : ∃ n, d = .int n := by cases m <;> exact h
theorem GI.toB {K : TypeId → Option (List Kd)} {m : Nat} {d : D} (h : GI K m .bool d) : ∃ b, d = .bool b := by cases m <;> exact h
def fdG (p : Nat → Bool) : Nat → Nat → Int
 | 0, _ => -1
 | k + 1, i => cond (p i) (i : Int) (fdG p k (i + 1))
theorem E9 {p : Nat → Bool} : ∀ {k i : Nat}, fdG p k i < i + k
 | 0, i => by show (-1 : Int) < _; omega
 | k + 1, i => by
  rw [fdG];have := E9 (p := p) (k := k) (i := i + 1);cases p i
  ·show fdG p k (i + 1) < _; omega
  ·show (i : Int) < _; omega
theorem KR {p : Nat → Bool} : ∀ {k i : Nat}, fdG p k i = -1 ∨ (i : Int) ≤ fdG p k i
 | 0, i => .inl rfl
 | k + 1, i => by
  rw [fdG];cases p i
  ·show fdG p k (i + 1) = _ ∨ _ ≤ fdG p k (i + 1);rcases KR (p := p) (k := k) (i := i + 1) with h | h
   ·exact .inl h
   ·exact .inr (by omega)
  ·exact .inr (Int.le_refl _)
theorem M2 {p : Nat → Bool} : ∀ {k i : Nat}, 0 ≤ fdG p k i → p (fdG p k i).toNat = true
 | 0, i => fun h => by simp [fdG] at h
 | k + 1, i => by
  rw [fdG];cases q : p i
  ·exact M2 (k := k)
  ·intro _;show p i = true;exact q
theorem Iz {p : Nat → Bool} : ∀ {k i j : Nat}, i ≤ j → j < i + k → p j = true → 0 ≤ fdG p k i ∧ fdG p k i ≤ j
 | 0, i, j => fun h h' => by omega
 | k + 1, i, j => by
  intro h h' hp;rw [fdG];cases q : p i
  ·have : i ≠ j := fun c => by rw [c, hp] at q; cases q
   exact Iz (k := k) (by omega) (by omega) hp
  ·show 0 ≤ (i : Int) ∧ (i : Int) ≤ j; omega
theorem DJ {p : Nat → Bool} {k i j : Nat} (h : i ≤ j) (h' : (j : Int) < fdG p k i ∨ (fdG p k i < 0 ∧ j < i + k)) : p j = false := by
 cases q : p j
 ·rfl
 ·have := E9 (p := p) (k := k) (i := i);have := Iz (p := p) (k := k) h (by omega) q
  omega
theorem BI {p : Nat → Bool} {k i : Nat} (h : ∀ j, i ≤ j → j < i + k → p j = false) : fdG p k i = -1 := by
 rcases KR (p := p) (k := k) (i := i) with q | q
 ·exact q
 ·have a := M2 (p := p) (k := k) (i := i) (by omega)
  rw [h _ (by omega) (by have := E9 (p := p) (k := k) (i := i); omega)] at a
  cases a
theorem CE {p q : Nat → Bool} : ∀ {k i : Nat}, (∀ j, i ≤ j → j < i + k → p j = q j) → fdG p k i = fdG q k i
 | 0, i, h => rfl
 | k + 1, i, h => by
  rw [fdG, fdG, h i (Nat.le_refl _) (by omega), CE fun j a b => h j (by omega) (by omega)]
theorem Xp {F : Nat → D} {bad : Nat → Bool} {B : Nat → D} {n : Nat} : ∀ {k i : Nat}, i + k = n → (∀ j, i ≤ j → j < n → F j = cond (bad j) (B j) (F (j + 1))) → F i = cond (decide (fdG bad k i < 0)) (F n) (B (fdG bad k i).toNat)
 | 0, i => fun h _ => by
  have : i = n := by omega
  subst this;rfl
 | k + 1, i => fun h hs => by
  rw [hs i (Nat.le_refl _) (by omega), fdG]
  cases bad i
  ·exact Xp (by omega) fun j a b => hs j (by omega) b
  ·show B i = cond (decide ((i : Int) < 0)) _ (B (i : Int).toNat);rw [ifF (by omega)]
   rfl
theorem Ek {F : Nat → D} {bad : Nat → Bool} {B : Nat → D} {n : Nat} (hs : ∀ j, j < n → F j = cond (bad j) (B j) (F (j + 1))) : F 0 = cond (decide (fdG bad n 0 < 0)) (F n) (B (fdG bad n 0).toNat) := Xp (by omega) fun j _ b => hs j b
theorem find {F : Nat → D} {bad : Nat → Bool} {n : Nat} (hs : ∀ j, j < n → F j = cond (bad j) (.row [.int 1, .int (j : Nat)]) (F (j + 1))) (hr : F n = .row [.int 1, .int (-1)]) : F 0 = .row [.int 1, .int (fdG bad n 0)] := by
 rw [Ek hs, hr];have h := KR (p := bad) (k := n) (i := 0);by_cases q : fdG bad n 0 < 0
 ·rw [ifT q];rcases h with h | h
  ·rw [h]
  ·omega
 ·rw [ifF q];have : ((fdG bad n 0).toNat : Int) = fdG bad n 0 := by omega
  rw [this]
theorem AZ {i : Nat} (h : i < 4611686018427387904) : IntKind.wrap .i64 ((i : Int) + 1) = ((i + 1 : Nat) : Int) := by rw [BD (by omega) (by omega)]; omega
theorem Ll {α : Type} {c : Bool} {a b x : α} (h1 : c = true → a = x) (h2 : c = false → b = x) : cond c a b = x := by
 cases c
 ·exact h2 rfl
 ·exact h1 rfl
theorem dT {p : Prop} [Decidable p] (h : decide p = true) : p := of_decide_eq_true h
theorem dF {p : Prop} [Decidable p] (h : decide p = false) : ¬ p := of_decide_eq_false h
theorem NS {x y : Int} : decide (x = y) = decide (y = x) := decide_eq_decide.2 eq_comm
theorem Bh {a : D} : D.strEq a a = true := by
 show (Nat.beq _ _ && Nat.beq _ _) = true;simp
theorem AN {a b : D} : D.strEq a b = D.strEq b a := Mi (U := Bz) _ _ _ _
theorem EJ {a : D} : eqC a 0 0 = decide (B9 a = 0) := by
 show (Nat.beq _ 0 && Nat.beq _ 0) = _;show _ = decide (a.toStr.data.toList.length = 0);cases a.toStr.data.toList <;> simp [AC]
theorem Vb {a b : D} : B9 (WP a b) = B9 a + B9 b := by
 show (a.toStr ++ b.toStr).data.toList.length = _;simp [B9]
theorem PQ {a b : D} : eqC (WP a b) 0 0 = (eqC a 0 0 && eqC b 0 0) := by
 rw [EJ, EJ, EJ, Vb, Bool.eq_iff_iff];simp
theorem D0 {a b : D} : D.strEq a b = true ↔ a.toStr = b.toStr := by
 show AE.strEq _ _ _ _ = true ↔ _;rw [B0 (U := Bz)];constructor
 ·intro h;rw [ByteArray.toList_eq, ByteArray.toList_eq] at h;have : a.toStr.data.toList = b.toStr.data.toList := by simpa only [beq_iff_eq] using h
  exact ByteArray.ext (Array.toList_inj.1 this)
 ·intro h;rw [h];simp
theorem DC {a b c : D} (h : D.strEq a b = true) (h' : D.strEq b c = true) : D.strEq a c = true := D0.2 ((D0.1 h).trans (D0.1 h'))
theorem HC {a b c : D} (h : D.strEq a b = true) : D.strEq a c = D.strEq b c := by
 show AE.strEq _ _ _ _ = AE.strEq _ _ _ _;rw [D0.1 h]
theorem TQ {a : D} {i : Nat} {j c : Nat} (hi : i ≤ len a) (hj : j < i) : cl (sb a 0 i) j c = cl a j c := by
 have hi' : i ≤ a.rows.length := hi;show (((a.rows.drop 0).take (i - 0)).getD j default).cells.getD c default = (a.rows.getD j default).cells.getD c default;rw [List.getD_eq_getElem?_getD, List.getD_eq_getElem?_getD, List.getElem?_take];simp [hj]
theorem VB {a k : D} (hw : ∀ r ∈ a.rows, ∃ x l, r = .row (x :: l)) : mIx [.str] a (.row [k]) = fdG (fun i => D.strEq (cl a i 0) k) (len a) 0 := by
 have gen : ∀ (rs l : List D) (nl : Bool), (∀ r ∈ rs, ∃ x l, r = .row (x :: l)) → DK [.str] [k] rs l.length = fdG (fun i => D.strEq (cl (.slc nl (l ++ rs)) i 0) k) rs.length l.length := by
  intro rs
  induction rs with
  | nil => intro l nl _; rfl
  | cons r rs ih =>
   intro l nl hr;rw [DK, List.length_cons, fdG]
   have e : cl (.slc nl (l ++ r :: rs)) (l.length : Nat) 0 = r.cells.getD 0 default := by
    show ((l ++ r :: rs).getD l.length default).cells.getD 0 default = _;simp
   have i2 := ih (l ++ [r]) nl fun x hx => hr x (List.mem_cons_of_mem _ hx)
   rw [List.length_append, List.append_assoc] at i2;have i2 : DK [.str] [k] rs (l.length + 1) = fdG (fun i => D.strEq (cl (.slc nl (l ++ r :: rs)) i 0) k) rs.length (l.length + 1) := i2
   rw [e, i2]
   have h : BU [.str] r.cells [k] = D.strEq (r.cells.getD 0 default) k := by
    obtain ⟨x, t, e⟩ := hr r (List.mem_cons_self ..);subst e;show (D.strEq x k && true) = D.strEq x k;rw [Bool.and_true]
   rw [h];cases D.strEq (r.cells.getD 0 default) k <;> rfl
 have h := gen a.rows [] a.isNil hw;exact h
def CD (f : Nat → D) (i : Nat) : D := .slc false ((List.range i).map fun j => .row [f j, .bool true])
theorem Kq {f : Nat → D} {i : Nat} : ad (CD f i) (.row [f i, .bool true]) = CD f (i + 1) := by
 unfold CD ad;rw [List.range_succ, List.map_append];rfl
theorem OQ {f : Nat → D} {i : Nat} {k : D} : mIx [.str] (CD f i) (.row [k]) = fdG (fun j => D.strEq (f j) k) i 0 := by
 rw [VB (by
  intro r hr;obtain ⟨j, _, e⟩ := List.mem_map.1 hr;exact ⟨_, _, e.symm⟩)]
 have hl : len (CD f i) = i := by unfold len CD; simp [D.rows]
 rw [hl];refine CE fun j _ hj => ?_
 have : cl (CD f i) j 0 = f j := by
  show ((((List.range i).map fun j => D.row [f j, .bool true])[j]?).getD default).cells.getD 0 default = f j
  rw [List.getElem?_map, List.getElem?_range (by omega)]
  rfl
 rw [this]
theorem Ko {f : Nat → D} {i : Nat} {j : Int} (h0 : 0 ≤ j) (h : j < i) : cl (CD f i) j 1 = .bool true := by
 show ((((List.range i).map fun j => D.row [f j, .bool true])[j.toNat]?).getD default).cells.getD 1 default = _
 rw [List.getElem?_map, List.getElem?_range (by omega)]
 rfl
theorem X9 {P : Program} {ts : List TypeId} {xs : List D} {ks : List Kd} {o : Option Nat} (h : Gm o P ts xs) (hk : Bo (Env.of P) ts = some ks) : ks.length = xs.length ∧ N7 (Env.of P).kinds 9 ks xs ∧ ShL (Env.of P).kinds o 9 ks xs := by
 obtain ⟨ks', cs, M, e, hd, hc, hs⟩ := h;rw [hk] at e;cases e;exact ⟨hd.len.2, hc.2, hs⟩
theorem ShK.cell {K : TypeId → Option (List Kd)} {o : Option Nat} {m j : Nat} {e : TypeId} {ks : List Kd} {kd : Kd} {d : D} {i : Nat} (h : ShK K o (m + 1) (.slice e) d) (hk : K e = some ks) (hi : i < len d) (hj : ks[j]? = some kd) : ShK K o m kd (cl d i j) := h.2 ks hk i hi j kd hj
theorem ShK.rows {K : TypeId → Option (List Kd)} {b m : Nat} {e : TypeId} {d : D} (h : ShK K (some b) (m + 1) (.slice e) d) : len d ≤ b := h.1 b rfl
theorem ShK.text {K : TypeId → Option (List Kd)} {b m : Nat} {d : D} (h : ShK K (some b) m .str d) : B9 d ≤ b := by
 have : leB (some b) (B9 d) := by cases m <;> exact h
 exact this b rfl
end Go.AE
set_option maxRecDepth 100000
namespace Ci
open Go Go.AE
theorem lt : GW 0 ts = true := by decide
theorem gw [Ap] {k p : Nat} {T : List (Tr Plf)} {t : Tr Plf} {xs : List D} {x : D} (hk : ts[k]? = some T) (hp : T[p]? = some t) (h : Dy ts k (atV ts xs) t = x) : An ts k (.row (.int (p : Nat) :: xs)) = x := (Y3 lt hk hp).trans h
section
variable [Ap]
def Lz : D := An ts 0 (.row [.int (0 : Nat)])
def Eh (v0 : D) : D := An ts 1 (.row [.int (0 : Nat), v0])
def PS (v0 v1 v2 : D) : D := An ts 1 (.row [.int (1 : Nat), v0, v1, v2])
def Th (v0 v1 : D) : D := An ts 2 (.row [.int (0 : Nat), v0, v1])
def WX (v0 v1 v2 : D) : D := An ts 2 (.row [.int (1 : Nat), v0, v1, v2])
def NH (v0 v1 v2 v3 v4 v5 v6 : D) : D := An ts 3 (.row [.int (0 : Nat), v0, v1, v2, v3, v4, v5, v6])
def SL (v0 v1 v2 v3 v4 v5 : D) : D := An ts 3 (.row [.int (1 : Nat), v0, v1, v2, v3, v4, v5])
def In (v0 v1 : D) : D := An ts 4 (.row [.int (0 : Nat), v0, v1])
def VI (v0 v1 v2 : D) : D := An ts 4 (.row [.int (1 : Nat), v0, v1, v2])
def OR (v0 v1 v2 v3 v4 v5 v6 : D) : D := An ts 5 (.row [.int (0 : Nat), v0, v1, v2, v3, v4, v5, v6])
def SG (v0 v1 v2 v3 v4 v5 : D) : D := An ts 5 (.row [.int (1 : Nat), v0, v1, v2, v3, v4, v5])
def Ze (v0 v1 v2 v3 v4 v5 v6 v7 v8 v9 : D) : D := An ts 6 (.row [.int (0 : Nat), v0, v1, v2, v3, v4, v5, v6, v7, v8, v9])
def SI (v0 v1 v2 v3 v4 v5 v6 v7 v8 v9 v10 : D) : D := An ts 6 (.row [.int (1 : Nat), v0, v1, v2, v3, v4, v5, v6, v7, v8, v9, v10])
def Ol (v0 v1 v2 v3 v4 v5 v6 : D) : D := An ts 7 (.row [.int (0 : Nat), v0, v1, v2, v3, v4, v5, v6])
def G9 (v0 v1 v2 v3 v4 v5 : D) : D := An ts 7 (.row [.int (1 : Nat), v0, v1, v2, v3, v4, v5])
def Ii (v0 v1 v2 v3 : D) : D := An ts 8 (.row [.int (0 : Nat), v0, v1, v2, v3])
def MQ (v0 v1 v2 v3 v4 v5 v6 : D) : D := An ts 8 (.row [.int (1 : Nat), v0, v1, v2, v3, v4, v5, v6])
def OA (v0 v1 v2 v3 v4 v5 : D) : D := An ts 8 (.row [.int (2 : Nat), v0, v1, v2, v3, v4, v5])
def Fq (v0 : D) : D := An ts 9 (.row [.int (0 : Nat), v0])
def NJ (v0 v1 : D) : D := An ts 9 (.row [.int (1 : Nat), v0, v1])
def HI (v0 v1 v2 v3 v4 : D) : D := An ts 10 (.row [.int (0 : Nat), v0, v1, v2, v3, v4])
def Rw (v0 v1 v2 v3 v4 v5 : D) : D := An ts 10 (.row [.int (1 : Nat), v0, v1, v2, v3, v4, v5])
def GH (v0 v1 v2 v3 v4 : D) : D := An ts 11 (.row [.int (0 : Nat), v0, v1, v2, v3, v4])
def QR (v0 v1 v2 v3 v4 v5 : D) : D := An ts 11 (.row [.int (1 : Nat), v0, v1, v2, v3, v4, v5])
def QJ (v0 v1 v2 v3 v4 : D) : D := An ts 12 (.row [.int (0 : Nat), v0, v1, v2, v3, v4])
def Fp (v0 v1 v2 v3 v4 v5 v6 v7 v8 v9 v10 v11 v12 v13 v14 v15 : D) : D := An ts 12 (.row [.int (1 : Nat), v0, v1, v2, v3, v4, v5, v6, v7, v8, v9, v10, v11, v12, v13, v14, v15])
def QV (v0 v1 v2 v3 : D) : D := An ts 13 (.row [.int (0 : Nat), v0, v1, v2, v3])
def IZ (v0 v1 v2 v3 v4 : D) : D := An ts 13 (.row [.int (1 : Nat), v0, v1, v2, v3, v4])
def IU (v0 v1 v2 v3 v4 : D) : D := An ts 13 (.row [.int (2 : Nat), v0, v1, v2, v3, v4])
def I8 (v0 v1 v2 v3 v4 : D) : D := An ts 13 (.row [.int (3 : Nat), v0, v1, v2, v3, v4])
def Do (v0 v1 : D) : D := An ts 14 (.row [.int (0 : Nat), v0, v1])
def Ry (v0 v1 v2 : D) : D := An ts 14 (.row [.int (1 : Nat), v0, v1, v2])
def ED (v0 v1 : D) : D := An ts 15 (.row [.int (0 : Nat), v0, v1])
def RE (v0 v1 v2 : D) : D := An ts 15 (.row [.int (1 : Nat), v0, v1, v2])
def Mg (v0 v1 v2 v3 v4 v5 v6 v7 v8 v9 v10 v11 : D) : D := An ts 16 (.row [.int (0 : Nat), v0, v1, v2, v3, v4, v5, v6, v7, v8, v9, v10, v11])
def Fu (v0 v1 v2 v3 v4 v5 v6 v7 v8 v9 v10 v11 v12 v13 v14 : D) : D := An ts 16 (.row [.int (1 : Nat), v0, v1, v2, v3, v4, v5, v6, v7, v8, v9, v10, v11, v12, v13, v14])
def DN (v0 v1 v2 v3 v4 v5 v6 v7 v8 v9 v10 v11 v12 v13 v14 v15 v16 v17 : D) : D := An ts 16 (.row [.int (2 : Nat), v0, v1, v2, v3, v4, v5, v6, v7, v8, v9, v10, v11, v12, v13, v14, v15, v16, v17])
def DO (v0 v1 v2 v3 v4 v5 v6 v7 : D) : D := An ts 17 (.row [.int (0 : Nat), v0, v1, v2, v3, v4, v5, v6, v7])
def Dn (v0 v1 v2 : D) : D := An ts 18 (.row [.int (0 : Nat), v0, v1, v2])
def Rp (v0 v1 v2 v3 : D) : D := An ts 18 (.row [.int (1 : Nat), v0, v1, v2, v3])
def Vm (v0 : D) : D := An ts 19 (.row [.int (0 : Nat), v0])
def IW (v0 v1 v2 v3 : D) : D := An ts 19 (.row [.int (1 : Nat), v0, v1, v2, v3])
def Oj (v0 : D) : D := An ts 20 (.row [.int (0 : Nat), v0])
def Fi (v0 v1 v2 v3 : D) : D := An ts 21 (.row [.int (0 : Nat), v0, v1, v2, v3])
def Je (v0 v1 v2 v3 v4 : D) : D := An ts 21 (.row [.int (1 : Nat), v0, v1, v2, v3, v4])
def IS (v0 v1 v2 v3 v4 v5 : D) : D := An ts 21 (.row [.int (2 : Nat), v0, v1, v2, v3, v4, v5])
def II (v0 v1 v2 v3 v4 v5 v6 v7 v8 : D) : D := An ts 22 (.row [.int (0 : Nat), v0, v1, v2, v3, v4, v5, v6, v7, v8])
def HL (v0 v1 v2 v3 : D) : D := An ts 24 (.row [.int (0 : Nat), v0, v1, v2, v3])
def Ka (v0 v1 v2 v3 v4 v5 v6 v7 v8 v9 v10 v11 : D) : D := An ts 25 (.row [.int (0 : Nat), v0, v1, v2, v3, v4, v5, v6, v7, v8, v9, v10, v11])
def Jj (v0 v1 v2 v3 v4 v5 v6 v7 v8 : D) : D := An ts 26 (.row [.int (0 : Nat), v0, v1, v2, v3, v4, v5, v6, v7, v8])
def dD (v0 v1 v2 v3 v4 v5 v6 v7 v8 v9 : D) : D := An ts 26 (.row [.int (1 : Nat), v0, v1, v2, v3, v4, v5, v6, v7, v8, v9])
def FA (v0 v1 v2 v3 v4 v5 v6 v7 v8 v9 v10 v11 v12 v13 v14 : D) : D := An ts 26 (.row [.int (2 : Nat), v0, v1, v2, v3, v4, v5, v6, v7, v8, v9, v10, v11, v12, v13, v14])
def bC (v0 v1 v2 v3 v4 v5 v6 v7 v8 : D) : D := An ts 27 (.row [.int (0 : Nat), v0, v1, v2, v3, v4, v5, v6, v7, v8])
def UU (v0 v1 v2 v3 v4 v5 v6 v7 v8 v9 v10 v11 : D) : D := An ts 28 (.row [.int (0 : Nat), v0, v1, v2, v3, v4, v5, v6, v7, v8, v9, v10, v11])
def Hn (v0 v1 v2 v3 : D) : D := An ts 29 (.row [.int (0 : Nat), v0, v1, v2, v3])
def IY (v0 v1 v2 v3 v4 : D) : D := An ts 29 (.row [.int (1 : Nat), v0, v1, v2, v3, v4])
def GA (v0 v1 v2 v3 v4 v5 v6 v7 v8 v9 : D) : D := An ts 30 (.row [.int (0 : Nat), v0, v1, v2, v3, v4, v5, v6, v7, v8, v9])
def GG (v0 v1 v2 v3 v4 v5 v6 v7 v8 v9 v10 v11 : D) : D := An ts 31 (.row [.int (0 : Nat), v0, v1, v2, v3, v4, v5, v6, v7, v8, v9, v10, v11])
def I9 (v0 v1 v2 v3 v4 v5 v6 v7 v8 v9 v10 v11 v12 v13 v14 v15 : D) : D := An ts 31 (.row [.int (1 : Nat), v0, v1, v2, v3, v4, v5, v6, v7, v8, v9, v10, v11, v12, v13, v14, v15])
def Up (v0 v1 v2 v3 v4 v5 v6 : D) : D := An ts 32 (.row [.int (0 : Nat), v0, v1, v2, v3, v4, v5, v6])
def QZ (v0 v1 v2 v3 v4 v5 v6 v7 v8 v9 v10 : D) : D := An ts 32 (.row [.int (1 : Nat), v0, v1, v2, v3, v4, v5, v6, v7, v8, v9, v10])
def Oy (v0 v1 v2 v3 v4 v5 v6 v7 v8 v9 : D) : D := An ts 32 (.row [.int (2 : Nat), v0, v1, v2, v3, v4, v5, v6, v7, v8, v9])
def KJ (v0 v1 v2 v3 v4 v5 v6 v7 v8 v9 v10 : D) : D := An ts 33 (.row [.int (0 : Nat), v0, v1, v2, v3, v4, v5, v6, v7, v8, v9, v10])
def Mk (v0 v1 v2 v3 v4 v5 v6 v7 v8 v9 v10 v11 : D) : D := An ts 33 (.row [.int (1 : Nat), v0, v1, v2, v3, v4, v5, v6, v7, v8, v9, v10, v11])
def NB (v0 v1 v2 v3 v4 v5 v6 v7 v8 v9 v10 v11 v12 v13 v14 v15 v16 : D) : D := An ts 34 (.row [.int (0 : Nat), v0, v1, v2, v3, v4, v5, v6, v7, v8, v9, v10, v11, v12, v13, v14, v15, v16])
def Bj (v0 v1 v2 v3 v4 v5 v6 v7 v8 v9 v10 v11 v12 v13 v14 v15 v16 v17 v18 v19 v20 v21 : D) : D := An ts 34 (.row [.int (1 : Nat), v0, v1, v2, v3, v4, v5, v6, v7, v8, v9, v10, v11, v12, v13, v14, v15, v16, v17, v18, v19, v20, v21])
def Hs (v0 v1 v2 v3 v4 v5 v6 v7 v8 v9 v10 v11 v12 : D) : D := An ts 35 (.row [.int (0 : Nat), v0, v1, v2, v3, v4, v5, v6, v7, v8, v9, v10, v11, v12])
def Mz (v0 v1 v2 v3 v4 v5 v6 : D) : D := An ts 36 (.row [.int (0 : Nat), v0, v1, v2, v3, v4, v5, v6])
def Kg (v0 v1 v2 v3 v4 v5 v6 v7 : D) : D := An ts 36 (.row [.int (1 : Nat), v0, v1, v2, v3, v4, v5, v6, v7])
def IP (v0 v1 v2 v3 v4 v5 v6 : D) : D := An ts 37 (.row [.int (0 : Nat), v0, v1, v2, v3, v4, v5, v6])
def Hv (v0 v1 v2 v3 v4 v5 v6 v7 v8 : D) : D := An ts 37 (.row [.int (1 : Nat), v0, v1, v2, v3, v4, v5, v6, v7, v8])
def LQ (v0 v1 v2 v3 v4 v5 v6 v7 v8 v9 v10 v11 v12 v13 v14 v15 v16 v17 v18 v19 v20 v21 v22 v23 v24 v25 v26 : D) : D := An ts 38 (.row [.int (0 : Nat), v0, v1, v2, v3, v4, v5, v6, v7, v8, v9, v10, v11, v12, v13, v14, v15, v16, v17, v18, v19, v20, v21, v22, v23, v24, v25, v26])
def RM (v0 v1 v2 v3 v4 v5 v6 v7 v8 v9 v10 : D) : D := An ts 40 (.row [.int (0 : Nat), v0, v1, v2, v3, v4, v5, v6, v7, v8, v9, v10])
def Mb (v0 v1 v2 v3 v4 v5 v6 v7 v8 v9 v10 v11 : D) : D := An ts 40 (.row [.int (1 : Nat), v0, v1, v2, v3, v4, v5, v6, v7, v8, v9, v10, v11])
def Jg (v0 v1 v2 v3 v4 v5 v6 v7 v8 v9 v10 v11 : D) : D := An ts 41 (.row [.int (0 : Nat), v0, v1, v2, v3, v4, v5, v6, v7, v8, v9, v10, v11])
def RI (v0 v1 v2 v3 v4 v5 v6 v7 v8 v9 v10 v11 v12 : D) : D := An ts 41 (.row [.int (1 : Nat), v0, v1, v2, v3, v4, v5, v6, v7, v8, v9, v10, v11, v12])
def U9 (v0 v1 v2 v3 v4 v5 v6 v7 v8 v9 v10 v11 v12 v13 v14 v15 v16 v17 v18 v19 v20 v21 v22 v23 v24 v25 : D) : D := An ts 42 (.row [.int (0 : Nat), v0, v1, v2, v3, v4, v5, v6, v7, v8, v9, v10, v11, v12, v13, v14, v15, v16, v17, v18, v19, v20, v21, v22, v23, v24, v25])
def Ji (v0 v1 v2 v3 v4 v5 v6 v7 v8 : D) : D := An ts 43 (.row [.int (0 : Nat), v0, v1, v2, v3, v4, v5, v6, v7, v8])
def L7 (v0 v1 v2 v3 v4 v5 v6 v7 v8 v9 v10 v11 v12 v13 v14 v15 v16 v17 v18 v19 v20 v21 v22 v23 v24 v25 v26 v27 v28 : D) : D := An ts 44 (.row [.int (0 : Nat), v0, v1, v2, v3, v4, v5, v6, v7, v8, v9, v10, v11, v12, v13, v14, v15, v16, v17, v18, v19, v20, v21, v22, v23, v24, v25, v26, v27, v28])
def Md (v0 v1 v2 v3 v4 v5 v6 v7 v8 v9 v10 v11 v12 v13 v14 v15 v16 v17 v18 v19 v20 v21 v22 v23 v24 v25 v26 v27 v28 v29 v30 v31 v32 v33 v34 : D) : D := An ts 44 (.row [.int (1 : Nat), v0, v1, v2, v3, v4, v5, v6, v7, v8, v9, v10, v11, v12, v13, v14, v15, v16, v17, v18, v19, v20, v21, v22, v23, v24, v25, v26, v27, v28, v29, v30, v31, v32, v33, v34])
def Ob (v0 v1 v2 v3 v4 v5 v6 v7 v8 v9 v10 v11 v12 v13 v14 v15 v16 v17 v18 v19 v20 v21 v22 v23 v24 v25 v26 v27 v28 v29 v30 v31 v32 v33 v34 v35 v36 : D) : D := An ts 44 (.row [.int (2 : Nat), v0, v1, v2, v3, v4, v5, v6, v7, v8, v9, v10, v11, v12, v13, v14, v15, v16, v17, v18, v19, v20, v21, v22, v23, v24, v25, v26, v27, v28, v29, v30, v31, v32, v33, v34, v35, v36])
def Oo (v0 v1 v2 v3 v4 v5 v6 v7 v8 v9 v10 v11 v12 v13 v14 v15 v16 v17 v18 v19 v20 v21 v22 v23 v24 v25 v26 v27 v28 v29 v30 v31 v32 v33 v34 : D) : D := An ts 44 (.row [.int (3 : Nat), v0, v1, v2, v3, v4, v5, v6, v7, v8, v9, v10, v11, v12, v13, v14, v15, v16, v17, v18, v19, v20, v21, v22, v23, v24, v25, v26, v27, v28, v29, v30, v31, v32, v33, v34])
def OI (v0 v1 v2 v3 v4 v5 v6 v7 v8 v9 v10 v11 v12 v13 v14 v15 v16 v17 v18 v19 v20 v21 v22 v23 v24 v25 v26 v27 v28 v29 v30 v31 v32 v33 v34 v35 v36 : D) : D := An ts 44 (.row [.int (4 : Nat), v0, v1, v2, v3, v4, v5, v6, v7, v8, v9, v10, v11, v12, v13, v14, v15, v16, v17, v18, v19, v20, v21, v22, v23, v24, v25, v26, v27, v28, v29, v30, v31, v32, v33, v34, v35, v36])
def TE (v0 v1 v2 v3 v4 v5 v6 v7 v8 v9 v10 v11 v12 v13 v14 v15 v16 v17 v18 : D) : D := An ts 45 (.row [.int (0 : Nat), v0, v1, v2, v3, v4, v5, v6, v7, v8, v9, v10, v11, v12, v13, v14, v15, v16, v17, v18])
def OT (v0 v1 v2 v3 v4 v5 v6 v7 v8 v9 v10 v11 v12 v13 v14 v15 v16 v17 v18 v19 v20 v21 v22 : D) : D := An ts 45 (.row [.int (1 : Nat), v0, v1, v2, v3, v4, v5, v6, v7, v8, v9, v10, v11, v12, v13, v14, v15, v16, v17, v18, v19, v20, v21, v22])
def OM (v0 v1 v2 v3 v4 v5 v6 v7 v8 v9 v10 v11 v12 v13 v14 v15 v16 v17 v18 v19 v20 v21 : D) : D := An ts 45 (.row [.int (2 : Nat), v0, v1, v2, v3, v4, v5, v6, v7, v8, v9, v10, v11, v12, v13, v14, v15, v16, v17, v18, v19, v20, v21])
def Jc (v0 v1 v2 v3 v4 v5 v6 v7 v8 v9 v10 v11 : D) : D := An ts 46 (.row [.int (0 : Nat), v0, v1, v2, v3, v4, v5, v6, v7, v8, v9, v10, v11])
def Kv (v0 v1 v2 v3 v4 v5 v6 v7 v8 v9 v10 v11 v12 v13 v14 v15 v16 v17 : D) : D := An ts 46 (.row [.int (1 : Nat), v0, v1, v2, v3, v4, v5, v6, v7, v8, v9, v10, v11, v12, v13, v14, v15, v16, v17])
def Xk (v0 v1 v2 v3 : D) : D := An ts 47 (.row [.int (0 : Nat), v0, v1, v2, v3])
def KM (v0 v1 v2 v3 v4 v5 : D) : D := An ts 47 (.row [.int (1 : Nat), v0, v1, v2, v3, v4, v5])
def IJ (v0 v1 v2 v3 v4 v5 v6 v7 v8 : D) : D := An ts 47 (.row [.int (2 : Nat), v0, v1, v2, v3, v4, v5, v6, v7, v8])
def IqQ (v0 v1 v2 v3 v4 v5 v6 v7 v8 : D) : D := An ts 47 (.row [.int (3 : Nat), v0, v1, v2, v3, v4, v5, v6, v7, v8])
def Fh (v0 v1 v2 v3 v4 v5 v6 v7 v8 : D) : D := An ts 47 (.row [.int (4 : Nat), v0, v1, v2, v3, v4, v5, v6, v7, v8])
def Fl (v0 v1 v2 v3 v4 v5 v6 v7 v8 v9 : D) : D := An ts 47 (.row [.int (5 : Nat), v0, v1, v2, v3, v4, v5, v6, v7, v8, v9])
theorem iu : Lz =
 .row [.int 1] := gw rfl rfl rfl
theorem iW (v0 : D) : Eh v0 =
  cond ((B9 v0 : Int) < 1) (
 .row [.int 1, (.bool false)]) (
 cond (32 < (B9 v0 : Int)) (
 .row [.int 1, (.bool false)]) (
 PS (OW v0) (.int (len (OW v0) : Int)) (.int 0))) := gw rfl rfl rfl
theorem Zy (v0 : D) (v1 v2 : Int) : PS v0 (.int v1) (.int v2) =
  cond (v2 < v1) (
 cond (v2 < 0) (
 .row []) (
 cond (v2 < len v0) (
 cond ((IntKind.wrap .u8 (cl v0 v2 0).toInt) < 97) (
 cond ((IntKind.wrap .u8 (cl v0 v2 0).toInt) < 65) (
 cond (v2 = 0) (
 .row [.int 1, (.bool false)]) (
 cond ((IntKind.wrap .u8 (cl v0 v2 0).toInt) < 48) (
 .row [.int 1, (.bool false)]) (
 cond (57 < (IntKind.wrap .u8 (cl v0 v2 0).toInt)) (
 .row [.int 1, (.bool false)]) (
 PS v0 (.int v1) (.int (IntKind.wrap .i64 (v2 + 1))))))) (
 cond (90 < (IntKind.wrap .u8 (cl v0 v2 0).toInt)) (
 cond (v2 = 0) (
 .row [.int 1, (.bool false)]) (
 cond ((IntKind.wrap .u8 (cl v0 v2 0).toInt) = 95) (
 PS v0 (.int v1) (.int (IntKind.wrap .i64 (v2 + 1)))) (
 .row [.int 1, (.bool false)]))) (
 PS v0 (.int v1) (.int (IntKind.wrap .i64 (v2 + 1)))))) (
 cond (122 < (IntKind.wrap .u8 (cl v0 v2 0).toInt)) (
 cond (v2 = 0) (
 .row [.int 1, (.bool false)]) (
 .row [.int 1, (.bool false)])) (
 PS v0 (.int v1) (.int (IntKind.wrap .i64 (v2 + 1)))))) (
 .row []))) (
 .row [.int 1, (.bool true)]) := gw rfl rfl (cL (cL rfl (cL (cL (cL (cQ rfl rfl) (cL (cQ rfl (cQ rfl rfl)) rfl)) (cL (cQ rfl rfl) rfl)) rfl)) rfl)
theorem ja (v0 v1 : D) : Th v0 v1 =
 WX v0 (.int 0) v1 := gw rfl rfl rfl
theorem iy (v0 : D) (v1 : Int) (v2 : D) : WX v0 (.int v1) v2 =
  cond (v1 < len v0) (
 cond (v1 < 0) (
 .row []) (
 cond (D.strEq (cl v0 v1 0) v2) (
 .row [.int 1, (.int v1)]) (
 WX v0 (.int (IntKind.wrap .i64 (v1 + 1))) v2))) (
 .row [.int 1, (.int (-1))]) := gw rfl rfl rfl
theorem io (v0 v1 v2 : Int) (v3 v4 v5 v6 : D) : NH (.int v0) (.int v1) (.int v2) v3 v4 v5 v6 =
  cond (v0 < v1) (
 .row [.int 1, (.int 0)]) (
 cond (v2 < v0) (
 .row [.int 1, (.int v2)]) (
 SL (.int v0) (.int 0) v3 v4 v5 v6)) := gw rfl rfl rfl
theorem ZW (v0 v1 : Int) (v2 v3 v4 v5 : D) : SL (.int v0) (.int v1) v2 v3 v4 v5 =
  cond (v1 < v0) (
 cond (v1 < 0) (
 .row []) (
 cond (v1 < len v4) (
 cond ((sl (Eh (cl v4 v1 0)) 0).toInt = 1) (
 cond ((sl (Eh (cl v4 v1 0)) 1).toBool) (
 cond ((sl (Th v4 (cl v4 v1 0)) 0).toInt = 1) (
 cond ((sl (Th v4 (cl v4 v1 0)) 1).toInt < v1) (
 .row [.int 1, (.int v1)]) (
 cond ((cl v4 v1 1).toInt < 1) (
 .row [.int 1, (.int v1)]) (
 cond (1000 < (cl v4 v1 1).toInt) (
 .row [.int 1, (.int v1)]) (
 SL (.int v0) (.int (IntKind.wrap .i64 (v1 + 1))) v2 v3 v4 v5)))) (
 .row [])) (
 .row [.int 1, (.int v1)])) (
 .row [])) (
 .row []))) (
 .row [.int 1, (.int (-1))]) := gw rfl rfl (cL (cL rfl (cL (cQ (cg rfl (cQ (cL rfl (cL rfl (cL rfl rfl))) rfl) rfl) rfl) rfl)) rfl)
theorem iM (v0 v1 : D) : In v0 v1 =
 VI v0 (.int 0) v1 := gw rfl rfl rfl
theorem iU (v0 : D) (v1 : Int) (v2 : D) : VI v0 (.int v1) v2 =
  cond (v1 < len v0) (
 cond (v1 < 0) (
 .row []) (
 cond (D.strEq (cl v0 v1 0) v2) (
 .row [.int 1, (.int v1)]) (
 VI v0 (.int (IntKind.wrap .i64 (v1 + 1))) v2))) (
 .row [.int 1, (.int (-1))]) := gw rfl rfl rfl
theorem iS (v0 v1 v2 : Int) (v3 v4 v5 v6 : D) : OR (.int v0) (.int v1) (.int v2) v3 v4 v5 v6 =
  cond (v0 < v1) (
 .row [.int 1, (.int 0)]) (
 cond (v2 < v0) (
 .row [.int 1, (.int v2)]) (
 SG (.int v0) (.int 0) v3 v4 v5 v6)) := gw rfl rfl rfl
theorem cU (v0 v1 : Int) (v2 v3 v4 v5 : D) : SG (.int v0) (.int v1) v2 v3 v4 v5 =
  cond (v1 < v0) (
 cond (v1 < 0) (
 .row []) (
 cond (v1 < len v3) (
 cond ((sl (Eh (cl v3 v1 0)) 0).toInt = 1) (
 cond ((sl (Eh (cl v3 v1 0)) 1).toBool) (
 cond ((sl (In v3 (cl v3 v1 0)) 0).toInt = 1) (
 cond ((sl (In v3 (cl v3 v1 0)) 1).toInt < v1) (
 .row [.int 1, (.int v1)]) (
 cond ((cl v3 v1 2).toInt < 0) (
 .row [.int 1, (.int v1)]) (
 cond (1048576 < (cl v3 v1 2).toInt) (
 .row [.int 1, (.int v1)]) (
 SG (.int v0) (.int (IntKind.wrap .i64 (v1 + 1))) v2 v3 v4 v5)))) (
 .row [])) (
 .row [.int 1, (.int v1)])) (
 .row [])) (
 .row []))) (
 .row [.int 1, (.int (-1))]) := gw rfl rfl (cL (cL rfl (cL (cQ (cg rfl (cQ (cL rfl (cL rfl (cL rfl rfl))) rfl) rfl) rfl) rfl)) rfl)
theorem i7 (v0 v1 v2 : D) (v3 : Int) (v4 v5 v6 : D) (v7 v8 v9 : Int) : Ze v0 v1 v2 (.int v3) v4 v5 v6 (.int v7) (.int v8) (.int v9) =
 SI v0 (.int 0) v1 v2 (.int v3) v4 v5 v6 (.int v7) (.int v8) (.int v9) := gw rfl rfl rfl
theorem ZP (v0 : D) (v1 : Int) (v2 v3 : D) (v4 : Int) (v5 v6 v7 : D) (v8 v9 v10 : Int) : SI v0 (.int v1) v2 v3 (.int v4) v5 v6 v7 (.int v8) (.int v9) (.int v10) =
  cond (v1 < len v0) (
 cond (v1 < 0) (
 .row []) (
 cond ((D.strEq v2 (cl v0 v1 0) && (D.strEq v3 (cl v0 v1 1) && (decide (v4 = (cl v0 v1 2).toInt) && (D.strEq v5 (cl v0 v1 3) && (D.strEq v6 (cl v0 v1 4) && (D.strEq v7 (cl v0 v1 5) && (decide (v8 = (cl v0 v1 6).toInt) && (decide (v9 = (cl v0 v1 7).toInt) && decide (v10 = (cl v0 v1 8).toInt)))))))))) (
 .row [.int 1, (.int v1)]) (
 SI v0 (.int (IntKind.wrap .i64 (v1 + 1))) v2 v3 (.int v4) v5 v6 v7 (.int v8) (.int v9) (.int v10)))) (
 .row [.int 1, (.int (-1))]) := gw rfl rfl (cL (cL rfl (cg (aE rfl (aE rfl (aE (qE rfl rfl) (aE rfl (aE rfl (aE rfl (aE (qE rfl rfl) (aE (qE rfl rfl) (qE rfl rfl))))))))) rfl rfl)) rfl)
theorem iC (v0 v1 v2 : Int) (v3 v4 v5 v6 : D) : Ol (.int v0) (.int v1) (.int v2) v3 v4 v5 v6 =
  cond (v0 < v1) (
 .row [.int 1, (.int 0)]) (
 cond (v2 < v0) (
 .row [.int 1, (.int v2)]) (
 G9 (.int v0) (.int 0) v3 v4 v5 v6)) := gw rfl rfl rfl
theorem dP (v0 v1 : Int) (v2 v3 v4 v5 : D) {F0 F1 F2 : D} (h0 : Ze (sb v5 0 v1) (cl v5 v1 0) (cl v5 v1 1) (cl v5 v1 2) (cl v5 v1 3) (cl v5 v1 4) (cl v5 v1 5) (cl v5 v1 6) (cl v5 v1 7) (cl v5 v1 8) = F0) (h1 : Th v4 (cl v5 v1 5) = F1) (h2 : In v3 (cl v5 v1 0) = F2) : G9 (.int v0) (.int v1) v2 v3 v4 v5 =
  cond (v1 < v0) (
 cond (v1 < 0) (
 .row []) (
 cond (v1 < len v5) (
 cond ((cl v5 v1 2).toInt = 1) (
 cond ((sl F2 0).toInt = 1) (
 cond ((sl F1 0).toInt = 1) (
 cond ((sl F2 1).toInt < 0) (
 .row [.int 1, (.int v1)]) (
 cond ((sl (In v3 (cl v5 v1 1)) 0).toInt = 1) (
 cond ((sl (In v3 (cl v5 v1 1)) 1).toInt < 0) (
 .row [.int 1, (.int v1)]) (
 cond (len v5 < v1) (
 .row []) (
 cond ((sl F0 0).toInt = 1) (
 cond ((sl F0 1).toInt < 0) (
 cond ((sl F2 1).toInt < len v3) (
 cond ((sl (Eh (cl v5 v1 3)) 0).toInt = 1) (
 cond ((sl (Eh (cl v5 v1 3)) 1).toBool) (
 cond ((sl (Eh (cl v5 v1 4)) 0).toInt = 1) (
 cond ((sl (Eh (cl v5 v1 4)) 1).toBool) (
 cond (D.strEq (cl v5 v1 4) v2) (
 .row [.int 1, (.int v1)]) (
 cond (eqC (cl v5 v1 5) 0 0) (
 cond ((cl v5 v1 6).toInt = 0) (
 cond ((cl v5 v1 7).toInt = 0) (
 cond ((cl v5 v1 8).toInt = 0) (
 G9 (.int v0) (.int (IntKind.wrap .i64 (v1 + 1))) v2 v3 v4 v5) (
 .row [.int 1, (.int v1)])) (
 .row [.int 1, (.int v1)])) (
 .row [.int 1, (.int v1)])) (
 cond ((sl F1 1).toInt < 0) (
 .row [.int 1, (.int v1)]) (
 cond ((cl v5 v1 6).toInt < 0) (
 .row [.int 1, (.int v1)]) (
 cond ((cl v5 v1 7).toInt < (cl v5 v1 6).toInt) (
 .row [.int 1, (.int v1)]) (
 cond ((cl v5 v1 8).toInt < (-1000)) (
 .row [.int 1, (.int v1)]) (
 cond (1000 < (cl v5 v1 8).toInt) (
 .row [.int 1, (.int v1)]) (
 cond ((sl F1 1).toInt < len v4) (
 cond ((cl v4 (sl F1 1).toInt 1).toInt < (cl v5 v1 7).toInt) (
 .row [.int 1, (.int v1)]) (
 cond ((IntKind.wrap .i64 ((cl v5 v1 6).toInt + (cl v5 v1 8).toInt)) < 0) (
 .row [.int 1, (.int v1)]) (
 cond ((cl v4 (sl F1 1).toInt 1).toInt < (IntKind.wrap .i64 ((cl v5 v1 7).toInt + (cl v5 v1 8).toInt))) (
 .row [.int 1, (.int v1)]) (
 G9 (.int v0) (.int (IntKind.wrap .i64 (v1 + 1))) v2 v3 v4 v5)))) (
 .row []))))))))) (
 .row [.int 1, (.int v1)])) (
 .row [])) (
 .row [.int 1, (.int v1)])) (
 .row [])) (
 .row [])) (
 .row [.int 1, (.int v1)])) (
 .row [])))) (
 .row []))) (
 .row [])) (
 .row [])) (
 cond ((cl v5 v1 2).toInt = 2) (
 cond ((sl F2 0).toInt = 1) (
 cond ((sl F1 0).toInt = 1) (
 cond ((sl F2 1).toInt < 0) (
 .row [.int 1, (.int v1)]) (
 cond ((sl (In v3 (cl v5 v1 1)) 0).toInt = 1) (
 cond ((sl (In v3 (cl v5 v1 1)) 1).toInt < 0) (
 .row [.int 1, (.int v1)]) (
 cond (len v5 < v1) (
 .row []) (
 cond ((sl F0 0).toInt = 1) (
 cond ((sl F0 1).toInt < 0) (
 cond ((sl F2 1).toInt < len v3) (
 cond ((sl (Eh (cl v5 v1 3)) 0).toInt = 1) (
 cond ((sl (Eh (cl v5 v1 3)) 1).toBool) (
 cond ((sl (Eh (cl v5 v1 4)) 0).toInt = 1) (
 cond ((sl (Eh (cl v5 v1 4)) 1).toBool) (
 cond (D.strEq (cl v5 v1 4) v2) (
 .row [.int 1, (.int v1)]) (
 cond (eqC (cl v5 v1 5) 0 0) (
 cond ((cl v5 v1 6).toInt = 0) (
 cond ((cl v5 v1 7).toInt = 0) (
 cond ((cl v5 v1 8).toInt = 0) (
 G9 (.int v0) (.int (IntKind.wrap .i64 (v1 + 1))) v2 v3 v4 v5) (
 .row [.int 1, (.int v1)])) (
 .row [.int 1, (.int v1)])) (
 .row [.int 1, (.int v1)])) (
 cond ((sl F1 1).toInt < 0) (
 .row [.int 1, (.int v1)]) (
 cond ((cl v5 v1 6).toInt < 0) (
 .row [.int 1, (.int v1)]) (
 cond ((cl v5 v1 7).toInt < (cl v5 v1 6).toInt) (
 .row [.int 1, (.int v1)]) (
 cond ((cl v5 v1 8).toInt < (-1000)) (
 .row [.int 1, (.int v1)]) (
 cond (1000 < (cl v5 v1 8).toInt) (
 .row [.int 1, (.int v1)]) (
 cond ((sl F1 1).toInt < len v4) (
 cond ((cl v4 (sl F1 1).toInt 1).toInt < (cl v5 v1 7).toInt) (
 .row [.int 1, (.int v1)]) (
 cond ((IntKind.wrap .i64 ((cl v5 v1 6).toInt + (cl v5 v1 8).toInt)) < 0) (
 .row [.int 1, (.int v1)]) (
 cond ((cl v4 (sl F1 1).toInt 1).toInt < (IntKind.wrap .i64 ((cl v5 v1 7).toInt + (cl v5 v1 8).toInt))) (
 .row [.int 1, (.int v1)]) (
 G9 (.int v0) (.int (IntKind.wrap .i64 (v1 + 1))) v2 v3 v4 v5)))) (
 .row []))))))))) (
 .row [.int 1, (.int v1)])) (
 .row [])) (
 .row [.int 1, (.int v1)])) (
 .row [])) (
 .row [])) (
 .row [.int 1, (.int v1)])) (
 .row [])))) (
 .row []))) (
 .row [])) (
 .row [])) (
 cond ((cl v5 v1 2).toInt = 3) (
 cond ((sl F2 0).toInt = 1) (
 cond ((sl F1 0).toInt = 1) (
 cond ((sl F2 1).toInt < 0) (
 .row [.int 1, (.int v1)]) (
 cond ((sl (In v3 (cl v5 v1 1)) 0).toInt = 1) (
 cond ((sl (In v3 (cl v5 v1 1)) 1).toInt < 0) (
 .row [.int 1, (.int v1)]) (
 cond (len v5 < v1) (
 .row []) (
 cond ((sl F0 0).toInt = 1) (
 cond ((sl F0 1).toInt < 0) (
 cond ((sl F2 1).toInt < len v3) (
 cond (0 < (cl v3 (sl F2 1).toInt 2).toInt) (
 cond ((B9 (cl v5 v1 3) : Int) < 4611686018427387904) (
 cond ((B9 (cl v5 v1 4) : Int) < 4611686018427387904) (
 cond (eqC (WP (cl v5 v1 3) (cl v5 v1 4)) 0 0) (
 cond (eqC (cl v5 v1 5) 0 0) (
 cond ((cl v5 v1 6).toInt = 0) (
 cond ((cl v5 v1 7).toInt = 0) (
 cond ((cl v5 v1 8).toInt = 0) (
 G9 (.int v0) (.int (IntKind.wrap .i64 (v1 + 1))) v2 v3 v4 v5) (
 .row [.int 1, (.int v1)])) (
 .row [.int 1, (.int v1)])) (
 .row [.int 1, (.int v1)])) (
 cond ((sl F1 1).toInt < 0) (
 .row [.int 1, (.int v1)]) (
 cond ((cl v5 v1 6).toInt < 0) (
 .row [.int 1, (.int v1)]) (
 cond ((cl v5 v1 7).toInt < (cl v5 v1 6).toInt) (
 .row [.int 1, (.int v1)]) (
 cond ((cl v5 v1 8).toInt < (-1000)) (
 .row [.int 1, (.int v1)]) (
 cond (1000 < (cl v5 v1 8).toInt) (
 .row [.int 1, (.int v1)]) (
 cond ((sl F1 1).toInt < len v4) (
 cond ((cl v4 (sl F1 1).toInt 1).toInt < (cl v5 v1 7).toInt) (
 .row [.int 1, (.int v1)]) (
 cond ((IntKind.wrap .i64 ((cl v5 v1 6).toInt + (cl v5 v1 8).toInt)) < 0) (
 .row [.int 1, (.int v1)]) (
 cond ((cl v4 (sl F1 1).toInt 1).toInt < (IntKind.wrap .i64 ((cl v5 v1 7).toInt + (cl v5 v1 8).toInt))) (
 .row [.int 1, (.int v1)]) (
 G9 (.int v0) (.int (IntKind.wrap .i64 (v1 + 1))) v2 v3 v4 v5)))) (
 .row [])))))))) (
 .row [.int 1, (.int v1)])) (
 .row [])) (
 .row [])) (
 .row [.int 1, (.int v1)])) (
 .row [])) (
 .row [.int 1, (.int v1)])) (
 .row [])))) (
 .row []))) (
 .row [])) (
 .row [])) (
 cond ((cl v5 v1 2).toInt = 4) (
 cond ((sl F2 0).toInt = 1) (
 cond ((sl F1 0).toInt = 1) (
 cond ((sl F2 1).toInt < 0) (
 .row [.int 1, (.int v1)]) (
 cond ((sl (In v3 (cl v5 v1 1)) 0).toInt = 1) (
 cond ((sl (In v3 (cl v5 v1 1)) 1).toInt < 0) (
 .row [.int 1, (.int v1)]) (
 cond (len v5 < v1) (
 .row []) (
 cond ((sl F0 0).toInt = 1) (
 cond ((sl F0 1).toInt < 0) (
 cond ((sl F2 1).toInt < len v3) (
 cond ((B9 (cl v5 v1 3) : Int) < 4611686018427387904) (
 cond ((B9 (cl v5 v1 4) : Int) < 4611686018427387904) (
 cond (eqC (WP (cl v5 v1 3) (cl v5 v1 4)) 0 0) (
 cond (eqC (cl v5 v1 5) 0 0) (
 cond ((cl v5 v1 6).toInt = 0) (
 cond ((cl v5 v1 7).toInt = 0) (
 cond ((cl v5 v1 8).toInt = 0) (
 G9 (.int v0) (.int (IntKind.wrap .i64 (v1 + 1))) v2 v3 v4 v5) (
 .row [.int 1, (.int v1)])) (
 .row [.int 1, (.int v1)])) (
 .row [.int 1, (.int v1)])) (
 cond ((sl F1 1).toInt < 0) (
 .row [.int 1, (.int v1)]) (
 cond ((cl v5 v1 6).toInt < 0) (
 .row [.int 1, (.int v1)]) (
 cond ((cl v5 v1 7).toInt < (cl v5 v1 6).toInt) (
 .row [.int 1, (.int v1)]) (
 cond ((cl v5 v1 8).toInt < (-1000)) (
 .row [.int 1, (.int v1)]) (
 cond (1000 < (cl v5 v1 8).toInt) (
 .row [.int 1, (.int v1)]) (
 cond ((sl F1 1).toInt < len v4) (
 cond ((cl v4 (sl F1 1).toInt 1).toInt < (cl v5 v1 7).toInt) (
 .row [.int 1, (.int v1)]) (
 cond ((IntKind.wrap .i64 ((cl v5 v1 6).toInt + (cl v5 v1 8).toInt)) < 0) (
 .row [.int 1, (.int v1)]) (
 cond ((cl v4 (sl F1 1).toInt 1).toInt < (IntKind.wrap .i64 ((cl v5 v1 7).toInt + (cl v5 v1 8).toInt))) (
 .row [.int 1, (.int v1)]) (
 G9 (.int v0) (.int (IntKind.wrap .i64 (v1 + 1))) v2 v3 v4 v5)))) (
 .row [])))))))) (
 .row [.int 1, (.int v1)])) (
 .row [])) (
 .row [])) (
 .row [])) (
 .row [.int 1, (.int v1)])) (
 .row [])))) (
 .row []))) (
 .row [])) (
 .row [])) (
 cond ((sl F2 0).toInt = 1) (
 cond ((sl F1 0).toInt = 1) (
 .row [.int 1, (.int v1)]) (
 .row [])) (
 .row [])))))) (
 .row []))) (
 .row [.int 1, (.int (-1))]) := by
  subst h0; subst h1; subst h2; exact gw rfl rfl (cL (cL rfl (cL (cQ (cQ (cQ (cL rfl (cQ (cL rfl (cL rfl (cQ (cL (cL (cQ (cg rfl (cQ (cg rfl (cg rfl rfl (cg rfl (cQ (cQ (cQ rfl rfl) rfl) rfl) (cL rfl (cL rfl (cL rfl (cL rfl (cL rfl rfl))))))) rfl) rfl) rfl) rfl) rfl) rfl) rfl))) rfl)) rfl) rfl) (cQ (cQ (cQ (cL rfl (cQ (cL rfl (cL rfl (cQ (cL (cL (cQ (cg rfl (cQ (cg rfl (cg rfl rfl (cg rfl (cQ (cQ (cQ rfl rfl) rfl) rfl) (cL rfl (cL rfl (cL rfl (cL rfl (cL rfl rfl))))))) rfl) rfl) rfl) rfl) rfl) rfl) rfl))) rfl)) rfl) rfl) (cQ (cQ (cQ (cL rfl (cQ (cL rfl (cL rfl (cQ (cL (cL (cL (cL (cL (cg rfl (cg rfl (cQ (cQ (cQ rfl rfl) rfl) rfl) (cL rfl (cL rfl (cL rfl (cL rfl (cL rfl rfl)))))) rfl) rfl) rfl) rfl) rfl) rfl) rfl))) rfl)) rfl) rfl) (cQ (cQ (cQ (cL rfl (cQ (cL rfl (cL rfl (cQ (cL (cL (cL (cL (cg rfl (cg rfl (cQ (cQ (cQ rfl rfl) rfl) rfl) (cL rfl (cL rfl (cL rfl (cL rfl (cL rfl rfl)))))) rfl) rfl) rfl) rfl) rfl) rfl))) rfl)) rfl) rfl) (cQ (cQ rfl rfl) rfl))))) rfl)) rfl)
theorem g7 (v0 v1 v2 v3 : D) : Ii v0 v1 v2 v3 =
  cond ((sl (Eh v0) 0).toInt = 1) (
 cond ((sl (Eh v0) 1).toBool) (
 cond ((sl (NH (.int (len v2 : Int)) (.int 0) (.int 4) v0 v1 v2 v3) 0).toInt = 1) (
 cond ((sl (NH (.int (len v2 : Int)) (.int 0) (.int 4) v0 v1 v2 v3) 1).toInt < 0) (
 cond ((sl (OR (.int (len v1 : Int)) (.int 1) (.int 24) v0 v1 v2 v3) 0).toInt = 1) (
 cond ((sl (OR (.int (len v1 : Int)) (.int 1) (.int 24) v0 v1 v2 v3) 1).toInt < 0) (
 cond ((sl (Ol (.int (len v3 : Int)) (.int 0) (.int 80) v0 v1 v2 v3) 0).toInt = 1) (
 cond ((sl (Ol (.int (len v3 : Int)) (.int 0) (.int 80) v0 v1 v2 v3) 1).toInt < 0) (
 MQ v1 (.int 0) v0 v2 v3 A3 (.bool true)) (
 .row [.int 1, A3, (.bool true), A3, (.bool true), (.int 2)])) (
 .row [])) (
 .row [.int 1, A3, (.bool true), A3, (.bool true), (.int 2)])) (
 .row [])) (
 .row [.int 1, A3, (.bool true), A3, (.bool true), (.int 2)])) (
 .row [])) (
 .row [.int 1, A3, (.bool true), A3, (.bool true), (.int 2)])) (
 .row []) := gw rfl rfl (cQ (cg rfl (cQ (cL (cQ (cL (cQ rfl rfl) rfl) rfl) rfl) rfl) rfl) rfl)
theorem fX (v0 : D) (v1 : Int) (v2 v3 v4 v5 : D) (v6 : Bool) : MQ v0 (.int v1) v2 v3 v4 v5 (.bool v6) =
  cond (v1 < len v0) (
 cond (v1 < 0) (
 .row []) (
 cond ((len v5 : Int) < 1073741824) (
 MQ v0 (.int (IntKind.wrap .i64 (v1 + 1))) v2 v3 v4 (ad v5 (.row [(cl v0 v1 0), (cl v0 v1 0)])) (.bool false)) (
 .row []))) (
 OA v3 (.int 0) v5 (.bool v6) A3 (.bool true)) := gw rfl rfl (cL (cL rfl (cL rfl rfl)) rfl)
theorem bz (v0 : D) (v1 : Int) (v2 : D) (v3 : Bool) (v4 : D) (v5 : Bool) : OA v0 (.int v1) v2 (.bool v3) v4 (.bool v5) =
  cond (v1 < len v0) (
 cond (v1 < 0) (
 .row []) (
 cond ((len v4 : Int) < 1073741824) (
 OA v0 (.int (IntKind.wrap .i64 (v1 + 1))) v2 (.bool v3) (ad v4 (.row [(cl v0 v1 0), (cl v0 v1 0), (.int 0)])) (.bool false)) (
 .row []))) (
 .row [.int 1, v2, (.bool v3), v4, (.bool v5), (.int 0)]) := gw rfl rfl (cL (cL rfl (cL rfl rfl)) rfl)
theorem ZL (v0 : D) : Fq v0 =
  cond ((B9 v0 : Int) < 1) (
 .row [.int 1, (.bool false)]) (
 cond (32 < (B9 v0 : Int)) (
 .row [.int 1, (.bool false)]) (
 cond ((sAt v0 0) = 95) (
 .row [.int 1, (.bool false)]) (
 cond ((sAt v0 0) < 48) (
 NJ v0 (.int 0)) (
 cond (57 < (sAt v0 0)) (
 NJ v0 (.int 0)) (
 .row [.int 1, (.bool false)]))))) := gw rfl rfl (cL rfl (cL rfl (cQ rfl rfl)))
theorem YK (v0 : D) (v1 : Int) : NJ v0 (.int v1) =
  cond (v1 < (B9 v0 : Int)) (
 cond (v1 < 0) (
 .row []) (
 cond ((sAt v0 v1) < 97) (
 cond ((sAt v0 v1) < 65) (
 cond ((sAt v0 v1) < 48) (
 .row [.int 1, (.bool false)]) (
 cond (57 < (sAt v0 v1)) (
 .row [.int 1, (.bool false)]) (
 NJ v0 (.int (IntKind.wrap .i64 (v1 + 1)))))) (
 cond (90 < (sAt v0 v1)) (
 cond ((sAt v0 v1) = 95) (
 NJ v0 (.int (IntKind.wrap .i64 (v1 + 1)))) (
 .row [.int 1, (.bool false)])) (
 NJ v0 (.int (IntKind.wrap .i64 (v1 + 1)))))) (
 cond (122 < (sAt v0 v1)) (
 .row [.int 1, (.bool false)]) (
 NJ v0 (.int (IntKind.wrap .i64 (v1 + 1))))))) (
 .row [.int 1, (.bool true)]) := gw rfl rfl (cL (cL rfl (cL (cL rfl (cL (cQ rfl rfl) rfl)) rfl)) rfl)
theorem aK (v0 v1 v2 v3 v4 : D) : HI v0 v1 v2 v3 v4 =
 Rw v4 (.int 0) v0 v1 v2 v3 := gw rfl rfl rfl
theorem ZY (v0 : D) (v1 : Int) (v2 v3 v4 v5 : D) : Rw v0 (.int v1) v2 v3 v4 v5 =
  cond (v1 < len v4) (
 cond (v1 < 0) (
 .row []) (
 cond (D.strEq (cl v4 v1 0) v0) (
 .row [.int 1, (.int v1)]) (
 Rw v0 (.int (IntKind.wrap .i64 (v1 + 1))) v2 v3 v4 v5))) (
 .row [.int 1, (.int (-1))]) := gw rfl rfl rfl
theorem ZR (v0 v1 v2 v3 v4 : D) : GH v0 v1 v2 v3 v4 =
 QR v4 (.int 0) v0 v1 v2 v3 := gw rfl rfl rfl
theorem dE (v0 : D) (v1 : Int) (v2 v3 v4 v5 : D) : QR v0 (.int v1) v2 v3 v4 v5 =
  cond (v1 < len v3) (
 cond (v1 < 0) (
 .row []) (
 cond (D.strEq (cl v3 v1 0) v0) (
 .row [.int 1, (.int v1)]) (
 QR v0 (.int (IntKind.wrap .i64 (v1 + 1))) v2 v3 v4 v5))) (
 .row [.int 1, (.int (-1))]) := gw rfl rfl rfl
theorem Z8 (v0 v1 v2 v3 : D) (v4 : Int) : QJ v0 v1 v2 v3 (.int v4) =
  cond (v4 < 0) (
 .row []) (
 cond (v4 < len v3) (
 cond ((sl (GH v0 v1 v2 v3 (cl v3 v4 0)) 0).toInt = 1) (
 cond ((sl (GH v0 v1 v2 v3 (cl v3 v4 0)) 1).toInt < 0) (
 .row [.int 1, (.bool false)]) (
 cond ((sl (GH v0 v1 v2 v3 (cl v3 v4 1)) 0).toInt = 1) (
 cond ((sl (GH v0 v1 v2 v3 (cl v3 v4 1)) 1).toInt < 0) (
 .row [.int 1, (.bool false)]) (
 cond (eqC (cl v3 v4 5) 0 0) (
 cond ((cl v3 v4 6).toInt = 0) (
 cond ((cl v3 v4 7).toInt = 0) (
 cond ((cl v3 v4 8).toInt = 0) (
 Fp (.int v4) (sl (GH v0 v1 v2 v3 (cl v3 v4 0)) 1) (.int 0) v0 v1 v2 v3 (cl v3 v4 0) (cl v3 v4 1) (cl v3 v4 2) (cl v3 v4 3) (cl v3 v4 4) (cl v3 v4 5) (cl v3 v4 6) (cl v3 v4 7) (cl v3 v4 8)) (
 .row [.int 1, (.bool false)])) (
 .row [.int 1, (.bool false)])) (
 .row [.int 1, (.bool false)])) (
 cond ((sl (HI v0 v1 v2 v3 (cl v3 v4 5)) 0).toInt = 1) (
 cond ((sl (HI v0 v1 v2 v3 (cl v3 v4 5)) 1).toInt < 0) (
 .row [.int 1, (.bool false)]) (
 cond ((cl v3 v4 6).toInt < 0) (
 .row [.int 1, (.bool false)]) (
 cond ((cl v3 v4 7).toInt < (cl v3 v4 6).toInt) (
 .row [.int 1, (.bool false)]) (
 cond ((sl (HI v0 v1 v2 v3 (cl v3 v4 5)) 1).toInt < len v2) (
 cond ((cl v2 (sl (HI v0 v1 v2 v3 (cl v3 v4 5)) 1).toInt 1).toInt < (cl v3 v4 7).toInt) (
 .row [.int 1, (.bool false)]) (
 cond ((cl v3 v4 8).toInt < (-1000)) (
 .row [.int 1, (.bool false)]) (
 cond (1000 < (cl v3 v4 8).toInt) (
 .row [.int 1, (.bool false)]) (
 cond ((IntKind.wrap .i64 ((cl v3 v4 6).toInt + (cl v3 v4 8).toInt)) < 0) (
 .row [.int 1, (.bool false)]) (
 cond ((cl v2 (sl (HI v0 v1 v2 v3 (cl v3 v4 5)) 1).toInt 1).toInt < (IntKind.wrap .i64 ((cl v3 v4 7).toInt + (cl v3 v4 8).toInt))) (
 .row [.int 1, (.bool false)]) (
 Fp (.int v4) (sl (GH v0 v1 v2 v3 (cl v3 v4 0)) 1) (.int 0) v0 v1 v2 v3 (cl v3 v4 0) (cl v3 v4 1) (cl v3 v4 2) (cl v3 v4 3) (cl v3 v4 4) (cl v3 v4 5) (cl v3 v4 6) (cl v3 v4 7) (cl v3 v4 8))))))) (
 .row []))))) (
 .row [])))) (
 .row []))) (
 .row [])) (
 .row [])) := gw rfl rfl (cL rfl (cL (cQ (cL rfl (cQ (cL rfl (cg rfl (cQ (cQ (cQ rfl rfl) rfl) rfl) (cQ (cL rfl (cL rfl (cL rfl (cL (cL rfl (cL rfl (cL rfl rfl))) rfl)))) rfl))) rfl)) rfl) rfl))
theorem Xe (v0 v1 v2 : Int) (v3 v4 v5 v6 v7 v8 : D) (v9 : Int) (v10 v11 v12 : D) (v13 v14 v15 : Int) : Fp (.int v0) (.int v1) (.int v2) v3 v4 v5 v6 v7 v8 (.int v9) v10 v11 v12 (.int v13) (.int v14) (.int v15) =
  cond (v2 < v0) (
 cond (v2 < 0) (
 .row []) (
 cond (v2 < len v6) (
 cond ((D.strEq (cl v6 v2 0) v7 && (D.strEq (cl v6 v2 1) v8 && (decide ((cl v6 v2 2).toInt = v9) && (D.strEq (cl v6 v2 3) v10 && (D.strEq (cl v6 v2 4) v11 && (D.strEq (cl v6 v2 5) v12 && (decide ((cl v6 v2 6).toInt = v13) && (decide ((cl v6 v2 7).toInt = v14) && decide ((cl v6 v2 8).toInt = v15)))))))))) (
 .row [.int 1, (.bool false)]) (
 Fp (.int v0) (.int v1) (.int (IntKind.wrap .i64 (v2 + 1))) v3 v4 v5 v6 v7 v8 (.int v9) v10 v11 v12 (.int v13) (.int v14) (.int v15))) (
 .row []))) (
 cond (v9 = 1) (
 cond ((sl (Fq v10) 0).toInt = 1) (
 cond ((sl (Fq v10) 1).toBool) (
 cond ((sl (Fq v11) 0).toInt = 1) (
 cond ((sl (Fq v11) 1).toBool) (
 .row [.int 1, (.bool (!D.strEq v11 v3))]) (
 .row [.int 1, (.bool false)])) (
 .row [])) (
 .row [.int 1, (.bool false)])) (
 .row [])) (
 cond (v9 = 2) (
 cond ((sl (Fq v10) 0).toInt = 1) (
 cond ((sl (Fq v10) 1).toBool) (
 cond ((sl (Fq v11) 0).toInt = 1) (
 cond ((sl (Fq v11) 1).toBool) (
 .row [.int 1, (.bool (!D.strEq v11 v3))]) (
 .row [.int 1, (.bool false)])) (
 .row [])) (
 .row [.int 1, (.bool false)])) (
 .row [])) (
 cond (v9 = 3) (
 cond (eqC v10 0 0) (
 cond (eqC v11 0 0) (
 cond (v1 < 0) (
 .row []) (
 cond (v1 < len v4) (
 .row [.int 1, (.bool (decide (0 < (cl v4 v1 2).toInt)))]) (
 .row []))) (
 .row [.int 1, (.bool false)])) (
 .row [.int 1, (.bool false)])) (
 cond (v9 = 4) (
 cond (eqC v10 0 0) (
 .row [.int 1, (.bool (eqC v11 0 0))]) (
 .row [.int 1, (.bool false)])) (
 .row [.int 1, (.bool false)]))))) := gw rfl rfl (cL (cL rfl (cL (cg (aE rfl (aE rfl (aE (qE rfl rfl) (aE rfl (aE rfl (aE rfl (aE (qE rfl rfl) (aE (qE rfl rfl) (qE rfl rfl))))))))) rfl rfl) rfl)) (cQ (cQ (cg rfl (cQ rfl rfl) rfl) rfl) (cQ (cQ (cg rfl (cQ rfl rfl) rfl) rfl) (cQ rfl (cQ rfl rfl)))))
theorem ey (v0 v1 v2 v3 : D) : QV v0 v1 v2 v3 =
  cond ((sl (Fq v0) 0).toInt = 1) (
 cond ((sl (Fq v0) 1).toBool) (
 cond (4 < (len v2 : Int)) (
 .row [.int 1, (.int 4), (.int 291)]) (
 IZ (.int 0) v0 v1 v2 v3)) (
 .row [.int 1, (.int 0), (.int 290)])) (
 .row []) := gw rfl rfl (cQ rfl rfl)
theorem Xs (v0 : Int) (v1 v2 v3 v4 : D) : IZ (.int v0) v1 v2 v3 v4 =
  cond (v0 < len v3) (
 cond (v0 < 0) (
 .row []) (
 cond ((sl (Fq (cl v3 v0 0)) 0).toInt = 1) (
 cond ((sl (Fq (cl v3 v0 0)) 1).toBool) (
 cond ((sl (HI v1 v2 v3 v4 (cl v3 v0 0)) 0).toInt = 1) (
 cond ((sl (HI v1 v2 v3 v4 (cl v3 v0 0)) 1).toInt = v0) (
 cond ((cl v3 v0 1).toInt < 1) (
 .row [.int 1, (.int v0), (.int 291)]) (
 cond (1000 < (cl v3 v0 1).toInt) (
 .row [.int 1, (.int v0), (.int 291)]) (
 IZ (.int (IntKind.wrap .i64 (v0 + 1))) v1 v2 v3 v4))) (
 .row [.int 1, (.int v0), (.int 291)])) (
 .row [])) (
 .row [.int 1, (.int v0), (.int 291)])) (
 .row []))) (
 cond ((len v2 : Int) = 0) (
 .row [.int 1, (.int 0), (.int 292)]) (
 cond (24 < (len v2 : Int)) (
 .row [.int 1, (.int 24), (.int 292)]) (
 IU (.int 0) v1 v2 v3 v4))) := gw rfl rfl (cL (cL rfl (cQ (cg rfl (cQ (cQ (cL rfl (cL rfl rfl)) rfl) rfl) rfl) rfl)) (cQ rfl rfl))
theorem X1 (v0 : Int) (v1 v2 v3 v4 : D) : IU (.int v0) v1 v2 v3 v4 =
  cond (v0 < len v2) (
 cond (v0 < 0) (
 .row []) (
 cond ((sl (Fq (cl v2 v0 0)) 0).toInt = 1) (
 cond ((sl (Fq (cl v2 v0 0)) 1).toBool) (
 cond ((sl (GH v1 v2 v3 v4 (cl v2 v0 0)) 0).toInt = 1) (
 cond ((sl (GH v1 v2 v3 v4 (cl v2 v0 0)) 1).toInt = v0) (
 cond ((cl v2 v0 2).toInt < 0) (
 .row [.int 1, (.int v0), (.int 292)]) (
 cond (1048576 < (cl v2 v0 2).toInt) (
 .row [.int 1, (.int v0), (.int 292)]) (
 IU (.int (IntKind.wrap .i64 (v0 + 1))) v1 v2 v3 v4))) (
 .row [.int 1, (.int v0), (.int 292)])) (
 .row [])) (
 .row [.int 1, (.int v0), (.int 292)])) (
 .row []))) (
 cond (80 < (len v4 : Int)) (
 .row [.int 1, (.int 80), (.int 293)]) (
 I8 (.int 0) v1 v2 v3 v4)) := gw rfl rfl (cL (cL rfl (cQ (cg rfl (cQ (cQ (cL rfl (cL rfl rfl)) rfl) rfl) rfl) rfl)) rfl)
theorem XD (v0 : Int) (v1 v2 v3 v4 : D) : I8 (.int v0) v1 v2 v3 v4 =
  cond (v0 < len v4) (
 cond ((sl (QJ v1 v2 v3 v4 (.int v0)) 0).toInt = 1) (
 cond ((sl (QJ v1 v2 v3 v4 (.int v0)) 1).toBool) (
 I8 (.int (IntKind.wrap .i64 (v0 + 1))) v1 v2 v3 v4) (
 .row [.int 1, (.int v0), (.int 293)])) (
 .row [])) (
 .row [.int 1, (.int 0), (.int 0)]) := gw rfl rfl (cL (cQ rfl rfl) rfl)
theorem aG (v0 v1 : D) : Do v0 v1 =
 Ry v0 (.int 0) v1 := gw rfl rfl rfl
theorem aL (v0 : D) (v1 : Int) (v2 : D) : Ry v0 (.int v1) v2 =
  cond (v1 < len v0) (
 cond (v1 < 0) (
 .row []) (
 cond (D.strEq (cl v0 v1 0) v2) (
 .row [.int 1, (.int v1)]) (
 Ry v0 (.int (IntKind.wrap .i64 (v1 + 1))) v2))) (
 .row [.int 1, (.int (-1))]) := gw rfl rfl rfl
theorem ci (v0 v1 : D) : ED v0 v1 =
 RE v0 (.int 0) v1 := gw rfl rfl rfl
theorem cD (v0 : D) (v1 : Int) (v2 : D) : RE v0 (.int v1) v2 =
  cond (v1 < len v0) (
 cond (v1 < 0) (
 .row []) (
 cond (D.strEq (cl v0 v1 0) v2) (
 .row [.int 1, (.int v1)]) (
 RE v0 (.int (IntKind.wrap .i64 (v1 + 1))) v2))) (
 .row [.int 1, (.int (-1))]) := gw rfl rfl rfl
theorem aR (v0 v1 v2 v3 v4 v5 v6 v7 v8 : D) (v9 : Bool) (v10 : D) (v11 : Bool) : Mg v0 v1 v2 v3 v4 v5 v6 v7 v8 (.bool v9) v10 (.bool v11) =
  cond ((sl (Eh v0) 0).toInt = 1) (
 cond ((sl (Eh v0) 1).toBool) (
 cond ((sl (NH (.int (len v2 : Int)) (.int 0) (.int 4) v0 v1 v2 v3) 0).toInt = 1) (
 cond ((sl (NH (.int (len v2 : Int)) (.int 0) (.int 4) v0 v1 v2 v3) 1).toInt < 0) (
 cond ((sl (OR (.int (len v1 : Int)) (.int 1) (.int 24) v0 v1 v2 v3) 0).toInt = 1) (
 cond ((sl (OR (.int (len v1 : Int)) (.int 1) (.int 24) v0 v1 v2 v3) 1).toInt < 0) (
 cond ((sl (Ol (.int (len v3 : Int)) (.int 0) (.int 80) v0 v1 v2 v3) 0).toInt = 1) (
 cond ((sl (Ol (.int (len v3 : Int)) (.int 0) (.int 80) v0 v1 v2 v3) 1).toInt < 0) (
 cond ((sl (Eh v4) 0).toInt = 1) (
 cond ((sl (Eh v4) 1).toBool) (
 cond ((sl (NH (.int (len v6 : Int)) (.int 0) (.int 4) v4 v5 v6 v7) 0).toInt = 1) (
 cond ((sl (NH (.int (len v6 : Int)) (.int 0) (.int 4) v4 v5 v6 v7) 1).toInt < 0) (
 cond ((sl (OR (.int (len v5 : Int)) (.int 1) (.int 24) v4 v5 v6 v7) 0).toInt = 1) (
 cond ((sl (OR (.int (len v5 : Int)) (.int 1) (.int 24) v4 v5 v6 v7) 1).toInt < 0) (
 cond ((sl (Ol (.int (len v7 : Int)) (.int 0) (.int 80) v4 v5 v6 v7) 0).toInt = 1) (
 cond ((sl (Ol (.int (len v7 : Int)) (.int 0) (.int 80) v4 v5 v6 v7) 1).toInt < 0) (
 cond (24 < (len v8 : Int)) (
 .row [.int 1, (.int 24), (.int 490)]) (
 Fu v0 v1 v2 v3 v4 v5 v6 v7 v8 (.bool v9) v10 (.bool v11) (.bool (decide (24 < (len v8 : Int)))) (.int 0) Aw)) (
 .row [.int 1, (.int 0), (.int 2)])) (
 .row [])) (
 .row [.int 1, (.int 0), (.int 2)])) (
 .row [])) (
 .row [.int 1, (.int 0), (.int 2)])) (
 .row [])) (
 .row [.int 1, (.int 0), (.int 2)])) (
 .row [])) (
 .row [.int 1, (.int 0), (.int 2)])) (
 .row [])) (
 .row [.int 1, (.int 0), (.int 2)])) (
 .row [])) (
 .row [.int 1, (.int 0), (.int 2)])) (
 .row [])) (
 .row [.int 1, (.int 0), (.int 2)])) (
 .row []) := gw rfl rfl (cQ (cg rfl (cQ (cL (cQ (cL (cQ (cL (cQ (cg rfl (cQ (cL (cQ (cL (cQ rfl rfl) rfl) rfl) rfl) rfl) rfl) rfl) rfl) rfl) rfl) rfl) rfl) rfl) rfl) rfl)
theorem Xn (v0 v1 v2 v3 v4 v5 v6 v7 v8 : D) (v9 : Bool) (v10 : D) (v11 v12 : Bool) (v13 : Int) (v14 : D) : Fu v0 v1 v2 v3 v4 v5 v6 v7 v8 (.bool v9) v10 (.bool v11) (.bool v12) (.int v13) v14 =
  cond (v13 < len v8) (
 cond (v13 < 0) (
 .row []) (
 cond ((sl (Do v1 (cl v8 v13 0)) 0).toInt = 1) (
 cond ((sl (Do v1 (cl v8 v13 0)) 1).toInt < 0) (
 .row [.int 1, (.int v13), (.int 490)]) (
 cond ((sl (Do v5 (cl v8 v13 1)) 0).toInt = 1) (
 cond ((sl (Do v5 (cl v8 v13 1)) 1).toInt < 0) (
 .row [.int 1, (.int v13), (.int 490)]) (
 cond ((mIx [.str] v14 (.row [(cl v8 v13 0)])) < 0) (
 Fu v0 v1 v2 v3 v4 v5 v6 v7 v8 (.bool v9) v10 (.bool v11) (.bool v12) (.int (IntKind.wrap .i64 (v13 + 1))) (ad v14 (.row [(cl v8 v13 0), (.bool true)]))) (
 cond ((cl v14 (mIx [.str] v14 (.row [(cl v8 v13 0)])) 1).toBool) (
 .row [.int 1, (.int v13), (.int 490)]) (
 Fu v0 v1 v2 v3 v4 v5 v6 v7 v8 (.bool v9) v10 (.bool v11) (.bool v12) (.int (IntKind.wrap .i64 (v13 + 1))) (upd v14 (mIx [.str] v14 (.row [(cl v8 v13 0)])) 1 (.bool true)))))) (
 .row []))) (
 .row []))) (
 cond (4 < (len v10 : Int)) (
 .row [.int 1, (.int 4), (.int 491)]) (
 DN v0 v1 v2 v3 v4 v5 v6 v7 v8 (.bool v9) v10 (.bool v11) (.bool v12) (.int v13) (.bool (decide (v13 < (len v8 : Int)))) (.bool (decide (4 < (len v10 : Int)))) (.int 0) Aw)) := gw rfl rfl (cL (cL rfl (cQ (cL rfl (cQ rfl rfl)) rfl)) rfl)
theorem Xl (v0 v1 v2 v3 v4 v5 v6 v7 v8 : D) (v9 : Bool) (v10 : D) (v11 v12 : Bool) (v13 : Int) (v14 v15 : Bool) (v16 : Int) (v17 : D) : DN v0 v1 v2 v3 v4 v5 v6 v7 v8 (.bool v9) v10 (.bool v11) (.bool v12) (.int v13) (.bool v14) (.bool v15) (.int v16) v17 =
  cond (v16 < len v10) (
 cond (v16 < 0) (
 .row []) (
 cond ((sl (ED v6 (cl v10 v16 0)) 0).toInt = 1) (
 cond ((sl (ED v6 (cl v10 v16 0)) 1).toInt < 0) (
 .row [.int 1, (.int v16), (.int 491)]) (
 cond (eqC (cl v10 v16 1) 0 0) (
 cond ((mIx [.str] v17 (.row [(cl v10 v16 0)])) < 0) (
 cond ((cl v10 v16 2).toInt < (IntKind.wrap .i64 (0 - (cl v10 v16 2).toInt))) (
 cond (1000 < (IntKind.wrap .i64 (0 - (cl v10 v16 2).toInt))) (
 .row [.int 1, (.int v16), (.int 491)]) (
 cond ((cl v10 v16 2).toInt < (-1000)) (
 .row [.int 1, (.int v16), (.int 491)]) (
 DN v0 v1 v2 v3 v4 v5 v6 v7 v8 (.bool v9) v10 (.bool v11) (.bool v12) (.int v13) (.bool v14) (.bool v15) (.int (IntKind.wrap .i64 (v16 + 1))) (ad v17 (.row [(cl v10 v16 0), (.bool true)]))))) (
 cond (1000 < (cl v10 v16 2).toInt) (
 .row [.int 1, (.int v16), (.int 491)]) (
 cond ((cl v10 v16 2).toInt < (-1000)) (
 .row [.int 1, (.int v16), (.int 491)]) (
 DN v0 v1 v2 v3 v4 v5 v6 v7 v8 (.bool v9) v10 (.bool v11) (.bool v12) (.int v13) (.bool v14) (.bool v15) (.int (IntKind.wrap .i64 (v16 + 1))) (ad v17 (.row [(cl v10 v16 0), (.bool true)])))))) (
 cond ((cl v17 (mIx [.str] v17 (.row [(cl v10 v16 0)])) 1).toBool) (
 .row [.int 1, (.int v16), (.int 491)]) (
 cond ((cl v10 v16 2).toInt < (IntKind.wrap .i64 (0 - (cl v10 v16 2).toInt))) (
 cond (1000 < (IntKind.wrap .i64 (0 - (cl v10 v16 2).toInt))) (
 .row [.int 1, (.int v16), (.int 491)]) (
 cond ((cl v10 v16 2).toInt < (-1000)) (
 .row [.int 1, (.int v16), (.int 491)]) (
 DN v0 v1 v2 v3 v4 v5 v6 v7 v8 (.bool v9) v10 (.bool v11) (.bool v12) (.int v13) (.bool v14) (.bool v15) (.int (IntKind.wrap .i64 (v16 + 1))) (upd v17 (mIx [.str] v17 (.row [(cl v10 v16 0)])) 1 (.bool true))))) (
 cond (1000 < (cl v10 v16 2).toInt) (
 .row [.int 1, (.int v16), (.int 491)]) (
 cond ((cl v10 v16 2).toInt < (-1000)) (
 .row [.int 1, (.int v16), (.int 491)]) (
 DN v0 v1 v2 v3 v4 v5 v6 v7 v8 (.bool v9) v10 (.bool v11) (.bool v12) (.int v13) (.bool v14) (.bool v15) (.int (IntKind.wrap .i64 (v16 + 1))) (upd v17 (mIx [.str] v17 (.row [(cl v10 v16 0)])) 1 (.bool true)))))))) (
 cond ((sl (ED v2 (cl v10 v16 1)) 0).toInt = 1) (
 cond ((sl (ED v2 (cl v10 v16 1)) 1).toInt < 0) (
 .row [.int 1, (.int v16), (.int 491)]) (
 cond ((mIx [.str] v17 (.row [(cl v10 v16 0)])) < 0) (
 cond ((cl v10 v16 2).toInt < (IntKind.wrap .i64 (0 - (cl v10 v16 2).toInt))) (
 cond (1000 < (IntKind.wrap .i64 (0 - (cl v10 v16 2).toInt))) (
 .row [.int 1, (.int v16), (.int 491)]) (
 cond ((cl v10 v16 2).toInt < (-1000)) (
 .row [.int 1, (.int v16), (.int 491)]) (
 DN v0 v1 v2 v3 v4 v5 v6 v7 v8 (.bool v9) v10 (.bool v11) (.bool v12) (.int v13) (.bool v14) (.bool v15) (.int (IntKind.wrap .i64 (v16 + 1))) (ad v17 (.row [(cl v10 v16 0), (.bool true)]))))) (
 cond (1000 < (cl v10 v16 2).toInt) (
 .row [.int 1, (.int v16), (.int 491)]) (
 cond ((cl v10 v16 2).toInt < (-1000)) (
 .row [.int 1, (.int v16), (.int 491)]) (
 DN v0 v1 v2 v3 v4 v5 v6 v7 v8 (.bool v9) v10 (.bool v11) (.bool v12) (.int v13) (.bool v14) (.bool v15) (.int (IntKind.wrap .i64 (v16 + 1))) (ad v17 (.row [(cl v10 v16 0), (.bool true)])))))) (
 cond ((cl v17 (mIx [.str] v17 (.row [(cl v10 v16 0)])) 1).toBool) (
 .row [.int 1, (.int v16), (.int 491)]) (
 cond ((cl v10 v16 2).toInt < (IntKind.wrap .i64 (0 - (cl v10 v16 2).toInt))) (
 cond (1000 < (IntKind.wrap .i64 (0 - (cl v10 v16 2).toInt))) (
 .row [.int 1, (.int v16), (.int 491)]) (
 cond ((cl v10 v16 2).toInt < (-1000)) (
 .row [.int 1, (.int v16), (.int 491)]) (
 DN v0 v1 v2 v3 v4 v5 v6 v7 v8 (.bool v9) v10 (.bool v11) (.bool v12) (.int v13) (.bool v14) (.bool v15) (.int (IntKind.wrap .i64 (v16 + 1))) (upd v17 (mIx [.str] v17 (.row [(cl v10 v16 0)])) 1 (.bool true))))) (
 cond (1000 < (cl v10 v16 2).toInt) (
 .row [.int 1, (.int v16), (.int 491)]) (
 cond ((cl v10 v16 2).toInt < (-1000)) (
 .row [.int 1, (.int v16), (.int 491)]) (
 DN v0 v1 v2 v3 v4 v5 v6 v7 v8 (.bool v9) v10 (.bool v11) (.bool v12) (.int v13) (.bool v14) (.bool v15) (.int (IntKind.wrap .i64 (v16 + 1))) (upd v17 (mIx [.str] v17 (.row [(cl v10 v16 0)])) 1 (.bool true))))))))) (
 .row [])))) (
 .row []))) (
 .row [.int 1, (.int 0), (.int 0)]) := gw rfl rfl (cL (cL rfl (cQ (cL rfl (cg rfl (cL (cL (cL rfl (cL rfl rfl)) (cL rfl (cL rfl rfl))) (cg rfl rfl (cL (cL rfl (cL rfl rfl)) (cL rfl (cL rfl rfl))))) (cQ (cL rfl (cL (cL (cL rfl (cL rfl rfl)) (cL rfl (cL rfl rfl))) (cg rfl rfl (cL (cL rfl (cL rfl rfl)) (cL rfl (cL rfl rfl)))))) rfl))) rfl)) rfl)
theorem eF (v0 : D) (v1 : Bool) (v2 : D) (v3 v4 v5 v6 v7 : Int) : DO v0 (.bool v1) v2 (.int v3) (.int v4) (.int v5) (.int v6) (.int v7) =
  cond ((mIx [.int .i64, .int .i64, .int .i64, .int .i64, .int .i64] v2 (.row [(.int v3), (.int v4), (.int v5), (.int v6), (.int v7)])) < 0) (
 cond ((len v0 : Int) < 1073741824) (
 .row [.int 1, (ad v0 (.row [(.int v3), (.int v4), (.int v5), (.int v6), (.int v7)])), (.bool false), (ad v2 (.row [(.int v3), (.int v4), (.int v5), (.int v6), (.int v7), (.bool true)]))]) (
 .row [])) (
 cond ((cl v2 (mIx [.int .i64, .int .i64, .int .i64, .int .i64, .int .i64] v2 (.row [(.int v3), (.int v4), (.int v5), (.int v6), (.int v7)])) 5).toBool) (
 .row [.int 1, v0, (.bool v1), v2]) (
 cond ((len v0 : Int) < 1073741824) (
 .row [.int 1, (ad v0 (.row [(.int v3), (.int v4), (.int v5), (.int v6), (.int v7)])), (.bool false), (upd v2 (mIx [.int .i64, .int .i64, .int .i64, .int .i64, .int .i64] v2 (.row [(.int v3), (.int v4), (.int v5), (.int v6), (.int v7)])) 5 (.bool true))]) (
 .row []))) := gw rfl rfl (cL (cL rfl rfl) (cg rfl rfl (cL rfl rfl)))
theorem eo (v0 : D) (v1 : Bool) (v2 : D) : Dn v0 (.bool v1) v2 =
 Rp v0 (.bool v1) (.int 0) v2 := gw rfl rfl rfl
theorem ZX (v0 : D) (v1 : Bool) (v2 : Int) (v3 : D) : Rp v0 (.bool v1) (.int v2) v3 =
  cond (v2 < len v0) (
 cond (v2 < 0) (
 .row []) (
 cond (D.strEq (cl v0 v2 0) v3) (
 .row [.int 1, (.int v2)]) (
 Rp v0 (.bool v1) (.int (IntKind.wrap .i64 (v2 + 1))) v3))) (
 .row [.int 1, (.int (-1))]) := gw rfl rfl rfl
theorem bO (v0 : D) : Vm v0 =
  cond (4 < (len v0 : Int)) (
 .row [.int 1]) (
 IW v0 (.int 0) A3 (.bool true)) := gw rfl rfl rfl
theorem Xg (v0 : D) (v1 : Int) (v2 : D) (v3 : Bool) : IW v0 (.int v1) v2 (.bool v3) =
  cond (v1 < len v0) (
 cond (v1 < 0) (
 .row []) (
 cond (eqC (cl v0 v1 0) 0 0) (
 .row [.int 1]) (
 cond ((cl v0 v1 1).toInt < 1) (
 .row [.int 1]) (
 cond (1000 < (cl v0 v1 1).toInt) (
 .row [.int 1]) (
 cond ((sl (Dn v2 (.bool v3) (cl v0 v1 0)) 0).toInt = 1) (
 cond ((sl (Dn v2 (.bool v3) (cl v0 v1 0)) 1).toInt < 0) (
 cond ((len v2 : Int) < 1073741824) (
 IW v0 (.int (IntKind.wrap .i64 (v1 + 1))) (ad v2 (.row [(cl v0 v1 0), (cl v0 v1 1), (.int 0)])) (.bool false)) (
 .row [])) (
 .row [.int 1])) (
 .row [])))))) (
 .row [.int 2, v2, (.bool v3)]) := gw rfl rfl (cL (cL rfl (cg rfl rfl (cL rfl (cL rfl (cQ (cL (cL rfl rfl) rfl) rfl))))) rfl)
theorem Z9 (v0 : Bool) (v1 : D) (v2 : Bool) (v3 : D) : Fi (.bool v0) v1 (.bool v2) v3 =
  cond (v0) (
 cond ((len v3 : Int) = (len v1 : Int)) (
 Je v3 (.int 0) (.bool v0) v1 (.bool v2)) (
 .row [.int 1, (.int 2), v1])) (
 .row [.int 1, (.int 1), v1]) := gw rfl rfl (cg rfl (cQ rfl rfl) rfl)
theorem XC (v0 : D) (v1 : Int) (v2 : Bool) (v3 : D) (v4 : Bool) : Je v0 (.int v1) (.bool v2) v3 (.bool v4) =
  cond (v1 < len v0) (
 cond (v1 < 0) (
 .row []) (
 cond ((cl v0 v1 0).toInt < 0) (
 .row [.int 1, (.int 3), v3]) (
 cond (v1 < len v3) (
 cond ((cl v3 v1 1).toInt < (cl v0 v1 0).toInt) (
 .row [.int 1, (.int 3), v3]) (
 Je v0 (.int (IntKind.wrap .i64 (v1 + 1))) (.bool v2) v3 (.bool v4))) (
 .row [])))) (
 IS v0 (.int (len v0 : Int)) (.int 0) (.bool v2) v3 (.bool v4)) := gw rfl rfl rfl
theorem XV (v0 : D) (v1 v2 : Int) (v3 : Bool) (v4 : D) (v5 : Bool) : IS v0 (.int v1) (.int v2) (.bool v3) v4 (.bool v5) =
  cond (v2 < v1) (
 cond (v2 < 0) (
 .row []) (
 cond (v2 < len v0) (
 cond (v2 < len v4) (
 IS v0 (.int v1) (.int (IntKind.wrap .i64 (v2 + 1))) (.bool v3) (upd v4 v2 2 (cl v0 v2 0)) (.bool v5)) (
 .row [])) (
 .row []))) (
 .row [.int 1, (.int 0), v4]) := gw rfl rfl rfl
theorem eL (v0 v1 v2 v3 v4 : Int) (v5 v6 v7 v8 : D) {F0 : D} (h0 : Vm v7 = F0) : II (.int v0) (.int v1) (.int v2) (.int v3) (.int v4) v5 v6 v7 v8 =
  cond ((sl F0 0).toInt = 1) (
 cond ((len v7 : Int) = 0) (
 cond ((sl (Oj Aw) 0).toInt = 1) (
 .row [.int 1]) (
 .row [])) (
 cond ((len v7 : Int) = 1) (
 cond ((sl (Oj (ad Aw (.row [(.int v1)]))) 0).toInt = 1) (
 .row [.int 1]) (
 .row [])) (
 cond ((len v7 : Int) = 2) (
 cond ((sl (Oj (ad (ad Aw (.row [(.int v1)])) (.row [(.int v2)]))) 0).toInt = 1) (
 .row [.int 1]) (
 .row [])) (
 cond ((len v7 : Int) = 3) (
 cond ((sl (Oj (ad (ad (ad Aw (.row [(.int v1)])) (.row [(.int v2)])) (.row [(.int v3)]))) 0).toInt = 1) (
 .row [.int 1]) (
 .row [])) (
 cond ((len v7 : Int) = 4) (
 cond ((sl (Oj (ad (ad (ad (ad Aw (.row [(.int v1)])) (.row [(.int v2)])) (.row [(.int v3)])) (.row [(.int v4)]))) 0).toInt = 1) (
 .row [.int 1]) (
 .row [])) (
 .row [])))))) (
 cond ((sl F0 0).toInt = 2) (
 cond ((len v7 : Int) = 0) (
 cond ((sl (Fi (.bool true) (sl F0 1) (sl F0 2) Aw) 0).toInt = 1) (
 .row [.int 2, (.int (len (sl F0 1) : Int)), (sl F0 2), (sl (Fi (.bool true) (sl F0 1) (sl F0 2) Aw) 2)]) (
 .row [])) (
 cond ((len v7 : Int) = 1) (
 cond ((sl (Fi (.bool true) (sl F0 1) (sl F0 2) (ad Aw (.row [(.int v1)]))) 0).toInt = 1) (
 .row [.int 2, (.int (len (sl F0 1) : Int)), (sl F0 2), (sl (Fi (.bool true) (sl F0 1) (sl F0 2) (ad Aw (.row [(.int v1)]))) 2)]) (
 .row [])) (
 cond ((len v7 : Int) = 2) (
 cond ((sl (Fi (.bool true) (sl F0 1) (sl F0 2) (ad (ad Aw (.row [(.int v1)])) (.row [(.int v2)]))) 0).toInt = 1) (
 .row [.int 2, (.int (len (sl F0 1) : Int)), (sl F0 2), (sl (Fi (.bool true) (sl F0 1) (sl F0 2) (ad (ad Aw (.row [(.int v1)])) (.row [(.int v2)]))) 2)]) (
 .row [])) (
 cond ((len v7 : Int) = 3) (
 cond ((sl (Fi (.bool true) (sl F0 1) (sl F0 2) (ad (ad (ad Aw (.row [(.int v1)])) (.row [(.int v2)])) (.row [(.int v3)]))) 0).toInt = 1) (
 .row [.int 2, (.int (len (sl F0 1) : Int)), (sl F0 2), (sl (Fi (.bool true) (sl F0 1) (sl F0 2) (ad (ad (ad Aw (.row [(.int v1)])) (.row [(.int v2)])) (.row [(.int v3)]))) 2)]) (
 .row [])) (
 cond ((len v7 : Int) = 4) (
 cond ((sl (Fi (.bool true) (sl F0 1) (sl F0 2) (ad (ad (ad (ad Aw (.row [(.int v1)])) (.row [(.int v2)])) (.row [(.int v3)])) (.row [(.int v4)]))) 0).toInt = 1) (
 .row [.int 2, (.int (len (sl F0 1) : Int)), (sl F0 2), (sl (Fi (.bool true) (sl F0 1) (sl F0 2) (ad (ad (ad (ad Aw (.row [(.int v1)])) (.row [(.int v2)])) (.row [(.int v3)])) (.row [(.int v4)]))) 2)]) (
 .row [])) (
 .row [])))))) (
 .row [])) := by
  subst h0; exact gw rfl rfl (cQ (cQ (cQ rfl rfl) (cQ (cQ rfl rfl) (cQ (cQ rfl rfl) (cQ (cQ rfl rfl) (cQ (cQ rfl rfl) rfl))))) (cQ (cQ (cQ rfl rfl) (cQ (cQ rfl rfl) (cQ (cQ rfl rfl) (cQ (cQ rfl rfl) (cQ (cQ rfl rfl) rfl))))) rfl))
theorem bK (v0 : Bool) (v1 : D) (v2 : Bool) (v3 : D) : HL (.bool v0) v1 (.bool v2) v3 =
  cond (v0) (
 cond ((sl (Dn v1 (.bool v2) v3) 0).toInt = 1) (
 cond ((sl (Dn v1 (.bool v2) v3) 1).toInt < 0) (
 .row [.int 1, (.int 0), (.int 9)]) (
 cond ((sl (Dn v1 (.bool v2) v3) 1).toInt < len v1) (
 .row [.int 1, (cl v1 (sl (Dn v1 (.bool v2) v3) 1).toInt 2), (.int 0)]) (
 .row []))) (
 .row [])) (
 .row [.int 1, (.int 0), (.int 1)]) := gw rfl rfl (cg rfl (cQ rfl rfl) rfl)
theorem gq (v0 : Bool) (v1 : D) (v2 : Bool) (v3 v4 : D) (v5 : Int) (v6 v7 v8 : D) (v9 v10 v11 : Int) : Ka (.bool v0) v1 (.bool v2) v3 v4 (.int v5) v6 v7 v8 (.int v9) (.int v10) (.int v11) =
  cond (v0) (
 cond (eqC v8 0 0) (
 .row [.int 1, (.bool true), (.int 0)]) (
 cond ((sl (HL (.bool v0) v1 (.bool v2) v8) 0).toInt = 1) (
 cond ((sl (HL (.bool v0) v1 (.bool v2) v8) 2).toInt = 0) (
 cond ((sl (Dn v1 (.bool v2) v8) 0).toInt = 1) (
 cond ((sl (Dn v1 (.bool v2) v8) 1).toInt < 0) (
 .row []) (
 cond ((sl (Dn v1 (.bool v2) v8) 1).toInt < len v1) (
 cond ((sl (HL (.bool v0) v1 (.bool v2) v8) 1).toInt < v9) (
 .row [.int 1, (.bool false), (.int 0)]) (
 cond (v10 < (sl (HL (.bool v0) v1 (.bool v2) v8) 1).toInt) (
 .row [.int 1, (.bool false), (.int 0)]) (
 cond (v11 < (IntKind.wrap .i64 (0 - (sl (HL (.bool v0) v1 (.bool v2) v8) 1).toInt))) (
 .row [.int 1, (.bool false), (.int 0)]) (
 .row [.int 1, (.bool (!decide ((IntKind.wrap .i64 ((cl v1 (sl (Dn v1 (.bool v2) v8) 1).toInt 1).toInt - (sl (HL (.bool v0) v1 (.bool v2) v8) 1).toInt)) < v11))), (.int 0)])))) (
 .row []))) (
 .row [])) (
 .row [.int 1, (.bool false), (sl (HL (.bool v0) v1 (.bool v2) v8) 2)])) (
 .row []))) (
 .row [.int 1, (.bool false), (.int 1)]) := gw rfl rfl (cg rfl (cg rfl rfl (cQ (cQ (cQ rfl rfl) rfl) rfl)) rfl)
theorem fk (v0 v1 v2 v3 v4 : Int) (v5 v6 v7 v8 : D) : Jj (.int v0) (.int v1) (.int v2) (.int v3) (.int v4) v5 v6 v7 v8 =
  cond ((sl (II (.int v0) (.int v1) (.int v2) (.int v3) (.int v4) v5 v6 v7 v8) 0).toInt = 1) (
 dD v8 (.int 0) (.int v0) (.int v1) (.int v2) (.int v3) (.int v4) v5 v6 v7) (
 cond ((sl (II (.int v0) (.int v1) (.int v2) (.int v3) (.int v4) v5 v6 v7 v8) 0).toInt = 2) (
 FA A3 (.bool true) v8 (.int 0) (.int v0) (.int v1) (.int v2) (.int v3) (.int v4) v5 v6 v7 (sl (II (.int v0) (.int v1) (.int v2) (.int v3) (.int v4) v5 v6 v7 v8) 1) (sl (II (.int v0) (.int v1) (.int v2) (.int v3) (.int v4) v5 v6 v7 v8) 2) (sl (II (.int v0) (.int v1) (.int v2) (.int v3) (.int v4) v5 v6 v7 v8) 3)) (
 .row [])) := gw rfl rfl (cQ rfl (cQ rfl rfl))
theorem XW (v0 : D) (v1 : Bool) (v2 : D) (v3 v4 v5 v6 v7 v8 : Int) (v9 v10 v11 v12 : D) (v13 : Bool) (v14 : D) {F0 : D} (h0 : Ka (.bool true) v14 (.bool v13) (cl v2 v3 0) (cl v2 v3 1) (cl v2 v3 2) (cl v2 v3 3) (cl v2 v3 4) (cl v2 v3 5) (cl v2 v3 6) (cl v2 v3 7) (cl v2 v3 8) = F0) : FA v0 (.bool v1) v2 (.int v3) (.int v4) (.int v5) (.int v6) (.int v7) (.int v8) v9 v10 v11 v12 (.bool v13) v14 =
  cond (v3 < len v2) (
 cond (v3 < 0) (
 .row []) (
 cond (len v14 = v12.toInt) (
 cond ((sl F0 0).toInt = 1) (
 cond ((sl F0 1).toBool) (
 cond (v4 < 0) (
 .row []) (
 cond (v4 < len v10) (
 cond (D.strEq (cl v2 v3 0) (cl v10 v4 0)) (
 cond ((len v0 : Int) < 1073741824) (
 FA (ad v0 (.row [(.int v3)])) (.bool false) v2 (.int (IntKind.wrap .i64 (v3 + 1))) (.int v4) (.int v5) (.int v6) (.int v7) (.int v8) v9 v10 v11 (.int (len v14 : Int)) (.bool v13) v14) (
 .row [])) (
 FA v0 (.bool v1) v2 (.int (IntKind.wrap .i64 (v3 + 1))) (.int v4) (.int v5) (.int v6) (.int v7) (.int v8) v9 v10 v11 (.int (len v14 : Int)) (.bool v13) v14)) (
 .row []))) (
 FA v0 (.bool v1) v2 (.int (IntKind.wrap .i64 (v3 + 1))) (.int v4) (.int v5) (.int v6) (.int v7) (.int v8) v9 v10 v11 (.int (len v14 : Int)) (.bool v13) v14)) (
 .row [])) (
 .row []))) (
 .row [.int 1, v0, (.bool v1)]) := by
  subst h0; exact gw rfl rfl (cL (cL rfl (cQ (cQ (cg rfl (cL rfl (cL (cg rfl (cL rfl rfl) rfl) rfl)) rfl) rfl) rfl)) rfl)
theorem fx (v0 : Bool) (v1 : D) (v2 : Bool) (v3 v4 : D) (v5 : Int) (v6 v7 v8 : D) (v9 v10 v11 : Int) : UU (.bool v0) v1 (.bool v2) v3 v4 (.int v5) v6 v7 v8 (.int v9) (.int v10) (.int v11) =
  cond ((sl (Ka (.bool v0) v1 (.bool v2) v3 v4 (.int v5) v6 v7 v8 (.int v9) (.int v10) (.int v11)) 0).toInt = 1) (
 cond ((sl (Ka (.bool v0) v1 (.bool v2) v3 v4 (.int v5) v6 v7 v8 (.int v9) (.int v10) (.int v11)) 2).toInt = 0) (
 cond ((sl (Ka (.bool v0) v1 (.bool v2) v3 v4 (.int v5) v6 v7 v8 (.int v9) (.int v10) (.int v11)) 1).toBool) (
 cond (eqC v8 0 0) (
 .row [.int 1, (.int 0), v1]) (
 cond ((sl (Dn v1 (.bool v2) v8) 0).toInt = 1) (
 cond ((sl (Dn v1 (.bool v2) v8) 1).toInt < 0) (
 .row []) (
 cond ((sl (Dn v1 (.bool v2) v8) 1).toInt < len v1) (
 .row [.int 1, (.int 0), (upd v1 (sl (Dn v1 (.bool v2) v8) 1).toInt 2 (.int (IntKind.wrap .i64 ((cl v1 (sl (Dn v1 (.bool v2) v8) 1).toInt 2).toInt + v11))))]) (
 .row []))) (
 .row []))) (
 .row [.int 1, (.int 8), v1])) (
 .row [.int 1, (sl (Ka (.bool v0) v1 (.bool v2) v3 v4 (.int v5) v6 v7 v8 (.int v9) (.int v10) (.int v11)) 2), v1])) (
 .row []) := gw rfl rfl (cQ (cQ (cg rfl (cg rfl rfl (cQ rfl rfl)) rfl) rfl) rfl)
theorem f8 (v0 : D) (v1 : Bool) (v2 : D) (v3 : Bool) : Hn v0 (.bool v1) v2 (.bool v3) =
 IY v2 (.bool v3) (.int 0) v0 (.bool v1) := gw rfl rfl rfl
theorem Xz (v0 : D) (v1 : Bool) (v2 : Int) (v3 : D) (v4 : Bool) : IY v0 (.bool v1) (.int v2) v3 (.bool v4) =
  cond (v2 < len v0) (
 cond (v2 < 0) (
 .row []) (
 cond ((len v3 : Int) < 1073741824) (
 IY v0 (.bool v1) (.int (IntKind.wrap .i64 (v2 + 1))) (ad v3 (.row [(cl v0 v2 2)])) (.bool false)) (
 .row []))) (
 .row [.int 1, v3, (.bool v4)]) := gw rfl rfl (cL (cL rfl (cL rfl rfl)) rfl)
theorem eR (v0 v1 v2 v3 v4 : Int) (v5 v6 v7 v8 : D) (v9 : Int) {F0 F1 F2 : D} (h0 : II (.int v0) (.int v1) (.int v2) (.int v3) (.int v4) v5 v6 v7 v8 = F0) (h1 : UU (.bool true) (sl F0 3) (sl F0 2) (cl v8 v9 0) (cl v8 v9 1) (cl v8 v9 2) (cl v8 v9 3) (cl v8 v9 4) (cl v8 v9 5) (cl v8 v9 6) (cl v8 v9 7) (cl v8 v9 8) = F1) (h2 : Hn A3 (.bool true) (ct Aw (sl F1 2)) (.bool false) = F2) : GA (.int v0) (.int v1) (.int v2) (.int v3) (.int v4) v5 v6 v7 v8 (.int v9) =
  cond ((sl F0 0).toInt = 1) (
 cond (v9 < 0) (
 .row []) (
 cond (v9 < len v8) (
 cond ((sl (bC (cl v8 v9 0) (cl v8 v9 1) (cl v8 v9 2) (cl v8 v9 3) (cl v8 v9 4) (cl v8 v9 5) (cl v8 v9 6) (cl v8 v9 7) (cl v8 v9 8)) 0).toInt = 1) (
 cond ((sl (Do v6 (cl v8 v9 1)) 0).toInt = 1) (
 .row [.int 1, (sl (Do v6 (cl v8 v9 1)) 1), (.int 0), (.int 0), (.int 0), (.int 0)]) (
 .row [])) (
 .row [])) (
 .row []))) (
 cond ((sl F0 0).toInt = 2) (
 cond (v9 < 0) (
 .row []) (
 cond (v9 < len v8) (
 cond (len (sl F0 3) = (sl F0 1).toInt) (
 cond ((sl F1 0).toInt = 1) (
 cond ((sl (Do v6 (cl v8 v9 1)) 0).toInt = 1) (
 cond ((sl F0 2).toBool) (
 .row [.int 1, (sl (Do v6 (cl v8 v9 1)) 1), (.int 0), (.int 0), (.int 0), (.int 0)]) (
 cond ((len (sl F0 3) : Int) = (len (sl F1 2) : Int)) (
 cond ((len (sl F1 2) : Int) < 1048576) (
 cond ((sl (Hn A3 (.bool true) (ct Aw (sl F1 2)) (.bool (false && decide ((len (sl F1 2) : Int) = 0)))) 0).toInt = 1) (
 cond ((len (sl (Hn A3 (.bool true) (ct Aw (sl F1 2)) (.bool (false && decide ((len (sl F1 2) : Int) = 0)))) 1) : Int) < 4) (
 cond ((len (sl (Hn A3 (.bool true) (ct Aw (sl F1 2)) (.bool (false && decide ((len (sl F1 2) : Int) = 0)))) 1) : Int) = 0) (
 .row [.int 1, (sl (Do v6 (cl v8 v9 1)) 1), (.int 0), (.int 0), (.int 0), (.int 0)]) (
 cond ((len (sl (Hn A3 (.bool true) (ct Aw (sl F1 2)) (.bool (false && decide ((len (sl F1 2) : Int) = 0)))) 1) : Int) = 1) (
 .row [.int 1, (sl (Do v6 (cl v8 v9 1)) 1), (cl (sl F2 1) 0 0), (.int 0), (.int 0), (.int 0)]) (
 cond ((len (sl (Hn A3 (.bool true) (ct Aw (sl F1 2)) (.bool (false && decide ((len (sl F1 2) : Int) = 0)))) 1) : Int) = 2) (
 .row [.int 1, (sl (Do v6 (cl v8 v9 1)) 1), (cl (sl F2 1) 0 0), (cl (sl F2 1) 1 0), (.int 0), (.int 0)]) (
 cond ((len (sl (Hn A3 (.bool true) (ct Aw (sl F1 2)) (.bool (false && decide ((len (sl F1 2) : Int) = 0)))) 1) : Int) = 3) (
 .row [.int 1, (sl (Do v6 (cl v8 v9 1)) 1), (cl (sl F2 1) 0 0), (cl (sl F2 1) 1 0), (cl (sl F2 1) 2 0), (.int 0)]) (
 .row []))))) (
 .row [.int 1, (sl (Do v6 (cl v8 v9 1)) 1), (cl (sl F2 1) 0 0), (cl (sl F2 1) 1 0), (cl (sl F2 1) 2 0), (cl (sl F2 1) 3 0)])) (
 .row [])) (
 .row [])) (
 .row []))) (
 .row [])) (
 .row [])) (
 .row [])) (
 .row []))) (
 .row [])) := by
  subst h0; subst h1; subst h2; exact gw rfl rfl (cQ (cL rfl (cL (cQ (cQ rfl rfl) rfl) rfl)) (cQ (cL rfl (cL (cQ (cQ (cQ (cg rfl rfl (cQ (cL (cQ (cL (cQ rfl (cQ rfl (cQ rfl (cQ rfl rfl)))) rfl) rfl) rfl) rfl)) rfl) rfl) rfl) rfl)) rfl))
theorem dX (v0 v1 v2 v3 v4 : Int) (v5 : D) (v6 : Bool) (v7 v8 v9 v10 v11 : D) : GG (.int v0) (.int v1) (.int v2) (.int v3) (.int v4) v5 (.bool v6) v7 v8 v9 v10 v11 =
  cond ((sl (Jj (.int v0) (.int v1) (.int v2) (.int v3) (.int v4) v8 v9 v10 v11) 0).toInt = 1) (
 I9 (sl (Jj (.int v0) (.int v1) (.int v2) (.int v3) (.int v4) v8 v9 v10 v11) 1) (sl (Jj (.int v0) (.int v1) (.int v2) (.int v3) (.int v4) v8 v9 v10 v11) 2) (.int (len (sl (Jj (.int v0) (.int v1) (.int v2) (.int v3) (.int v4) v8 v9 v10 v11) 1) : Int)) (.int 0) v5 (.bool v6) v7 v8 v9 v10 v11 (.int v0) (.int v1) (.int v2) (.int v3) (.int v4)) (
 .row []) := gw rfl rfl (cQ rfl rfl)
theorem XI (v0 : D) (v1 : Bool) (v2 v3 : Int) (v4 : D) (v5 : Bool) (v6 v7 v8 v9 v10 : D) (v11 v12 v13 v14 v15 : Int) {F0 : D} (h0 : GA (.int v11) (.int v12) (.int v13) (.int v14) (.int v15) v7 v8 v9 v10 (cl v0 v3 0) = F0) : I9 v0 (.bool v1) (.int v2) (.int v3) v4 (.bool v5) v6 v7 v8 v9 v10 (.int v11) (.int v12) (.int v13) (.int v14) (.int v15) =
  cond (v3 < v2) (
 cond (v3 < 0) (
 .row []) (
 cond (v3 < len v0) (
 cond ((sl F0 0).toInt = 1) (
 cond ((sl (DO v4 (.bool v5) v6 (sl F0 1) (sl F0 2) (sl F0 3) (sl F0 4) (sl F0 5)) 0).toInt = 1) (
 I9 v0 (.bool v1) (.int v2) (.int (IntKind.wrap .i64 (v3 + 1))) (sl (DO v4 (.bool v5) v6 (sl F0 1) (sl F0 2) (sl F0 3) (sl F0 4) (sl F0 5)) 1) (sl (DO v4 (.bool v5) v6 (sl F0 1) (sl F0 2) (sl F0 3) (sl F0 4) (sl F0 5)) 2) (sl (DO v4 (.bool v5) v6 (sl F0 1) (sl F0 2) (sl F0 3) (sl F0 4) (sl F0 5)) 3) v7 v8 v9 v10 (.int v11) (.int v12) (.int v13) (.int v14) (.int v15)) (
 .row [])) (
 .row [])) (
 .row []))) (
 .row [.int 1, v4, (.bool v5), v6]) := by
  subst h0; exact gw rfl rfl (cL (cL rfl (cL (cQ (cQ rfl rfl) rfl) rfl)) rfl)
theorem eI (v0 : D) (v1 : Bool) (v2 : Int) (v3 v4 v5 v6 : D) : Up v0 (.bool v1) (.int v2) v3 v4 v5 v6 =
 QZ (.int v2) v0 (.bool v1) (.int 0) v3 v4 v5 v6 A3 (.bool true) Aw := gw rfl rfl rfl
theorem XQ (v0 : Int) (v1 : D) (v2 : Bool) (v3 : Int) (v4 v5 v6 v7 v8 : D) (v9 : Bool) (v10 : D) : QZ (.int v0) v1 (.bool v2) (.int v3) v4 v5 v6 v7 v8 (.bool v9) v10 =
  cond (v3 < len v1) (
 cond (v3 < 0) (
 .row []) (
 cond ((sl (DO v8 (.bool v9) v10 (cl v1 v3 0) (cl v1 v3 1) (cl v1 v3 2) (cl v1 v3 3) (cl v1 v3 4)) 0).toInt = 1) (
 QZ (.int v0) v1 (.bool v2) (.int (IntKind.wrap .i64 (v3 + 1))) v4 v5 v6 v7 (sl (DO v8 (.bool v9) v10 (cl v1 v3 0) (cl v1 v3 1) (cl v1 v3 2) (cl v1 v3 3) (cl v1 v3 4)) 1) (sl (DO v8 (.bool v9) v10 (cl v1 v3 0) (cl v1 v3 1) (cl v1 v3 2) (cl v1 v3 3) (cl v1 v3 4)) 2) (sl (DO v8 (.bool v9) v10 (cl v1 v3 0) (cl v1 v3 1) (cl v1 v3 2) (cl v1 v3 3) (cl v1 v3 4)) 3)) (
 .row []))) (
 Oy (.int v0) (.int 0) v1 v4 v5 v6 v7 v8 (.bool v9) v10) := gw rfl rfl (cL (cL rfl (cQ rfl rfl)) rfl)
theorem Xv (v0 v1 : Int) (v2 v3 v4 v5 v6 v7 : D) (v8 : Bool) (v9 : D) : Oy (.int v0) (.int v1) v2 v3 v4 v5 v6 v7 (.bool v8) v9 =
  cond (v1 < len v7) (
 cond (v1 < v0) (
 cond (v1 < 0) (
 .row []) (
 cond ((sl (GG (cl v7 v1 0) (cl v7 v1 1) (cl v7 v1 2) (cl v7 v1 3) (cl v7 v1 4) v7 (.bool v8) v9 v3 v4 v5 v6) 0).toInt = 1) (
 Oy (.int v0) (.int (IntKind.wrap .i64 (v1 + 1))) v2 v3 v4 v5 v6 (sl (GG (cl v7 v1 0) (cl v7 v1 1) (cl v7 v1 2) (cl v7 v1 3) (cl v7 v1 4) v7 (.bool v8) v9 v3 v4 v5 v6) 1) (sl (GG (cl v7 v1 0) (cl v7 v1 1) (cl v7 v1 2) (cl v7 v1 3) (cl v7 v1 4) v7 (.bool v8) v9 v3 v4 v5 v6) 2) (sl (GG (cl v7 v1 0) (cl v7 v1 1) (cl v7 v1 2) (cl v7 v1 3) (cl v7 v1 4) v7 (.bool v8) v9 v3 v4 v5 v6) 3)) (
 .row []))) (
 .row [.int 1, v7, (.bool v8), (.bool (decide (v0 < (len v7 : Int))))])) (
 .row [.int 1, v7, (.bool v8), (.bool (decide (v0 < (len v7 : Int))))]) := gw rfl rfl (cL (cL (cL rfl (cQ rfl rfl)) rfl) rfl)
theorem cr (v0 : D) (v1 : Bool) (v2 v3 v4 v5 : D) (v6 v7 v8 v9 v10 : Int) : KJ v0 (.bool v1) v2 v3 v4 v5 (.int v6) (.int v7) (.int v8) (.int v9) (.int v10) =
 Mk v0 (.bool v1) (.int 0) v2 v3 v4 v5 (.int v6) (.int v7) (.int v8) (.int v9) (.int v10) := gw rfl rfl rfl
theorem Xy (v0 : D) (v1 : Bool) (v2 : Int) (v3 v4 v5 v6 : D) (v7 v8 v9 v10 v11 : Int) : Mk v0 (.bool v1) (.int v2) v3 v4 v5 v6 (.int v7) (.int v8) (.int v9) (.int v10) (.int v11) =
  cond (v2 < len v0) (
 cond (v2 < 0) (
 .row []) (
 cond (v7 < 0) (
 .row []) (
 cond (v7 < len v4) (
 cond (D.strEq (cl v0 v2 0) (cl v4 v7 0)) (
 .row [.int 1, (.int v2)]) (
 Mk v0 (.bool v1) (.int (IntKind.wrap .i64 (v2 + 1))) v3 v4 v5 v6 (.int v7) (.int v8) (.int v9) (.int v10) (.int v11))) (
 .row [])))) (
 .row [.int 1, (.int (-1))]) := gw rfl rfl rfl
theorem fh (v0 v1 v2 v3 v4 v5 v6 v7 v8 : D) (v9 : Bool) (v10 : D) (v11 : Bool) (v12 v13 v14 v15 v16 : Int) : NB v0 v1 v2 v3 v4 v5 v6 v7 v8 (.bool v9) v10 (.bool v11) (.int v12) (.int v13) (.int v14) (.int v15) (.int v16) =
  cond ((sl (KJ v8 (.bool v9) v0 v1 v2 v3 (.int v12) (.int v13) (.int v14) (.int v15) (.int v16)) 0).toInt = 1) (
 cond ((sl (KJ v8 (.bool v9) v0 v1 v2 v3 (.int v12) (.int v13) (.int v14) (.int v15) (.int v16)) 1).toInt < 0) (
 .row [.int 1, (.int 0), (.int 0), (.int 0), (.int 0), (.int 0), (.int 9)]) (
 cond ((sl (KJ v8 (.bool v9) v0 v1 v2 v3 (.int v12) (.int v13) (.int v14) (.int v15) (.int v16)) 1).toInt < len v8) (
 cond ((sl (Do v5 (cl v8 (sl (KJ v8 (.bool v9) v0 v1 v2 v3 (.int v12) (.int v13) (.int v14) (.int v15) (.int v16)) 1).toInt 1)) 0).toInt = 1) (
 Bj v10 (.bool v11) (.int 0) v8 v0 v1 v2 v3 v4 v5 v6 v7 (.int v12) (.int v13) (.int v14) (.int v15) (.int v16) (sl (Do v5 (cl v8 (sl (KJ v8 (.bool v9) v0 v1 v2 v3 (.int v12) (.int v13) (.int v14) (.int v15) (.int v16)) 1).toInt 1)) 1) (.int 0) (.int 0) (.int 0) (.int 0)) (
 .row [])) (
 .row []))) (
 .row []) := gw rfl rfl (cQ (cL rfl (cL (cQ rfl rfl) rfl)) rfl)
theorem Xu (v0 : D) (v1 : Bool) (v2 : Int) (v3 v4 v5 v6 v7 v8 v9 v10 v11 : D) (v12 v13 v14 v15 v16 v17 v18 v19 v20 v21 : Int) {F0 : D} (h0 : ED v10 (cl v0 v2 0) = F0) : Bj v0 (.bool v1) (.int v2) v3 v4 v5 v6 v7 v8 v9 v10 v11 (.int v12) (.int v13) (.int v14) (.int v15) (.int v16) (.int v17) (.int v18) (.int v19) (.int v20) (.int v21) =
  cond (v2 < len v0) (
 cond (v2 < 0) (
 .row []) (
 cond ((sl F0 0).toInt = 1) (
 cond ((sl (ED v6 (cl v0 v2 1)) 0).toInt = 1) (
 cond ((sl (ED v6 (cl v0 v2 1)) 1).toInt < 0) (
 cond ((cl v0 v2 2).toInt < 0) (
 .row [.int 1, (.int 0), (.int 0), (.int 0), (.int 0), (.int 0), (.int 3)]) (
 cond ((sl F0 1).toInt < 0) (
 .row []) (
 cond ((sl F0 1).toInt < len v10) (
 cond ((cl v10 (sl F0 1).toInt 1).toInt < (cl v0 v2 2).toInt) (
 .row [.int 1, (.int 0), (.int 0), (.int 0), (.int 0), (.int 0), (.int 3)]) (
 cond ((sl F0 1).toInt = 0) (
 Bj v0 (.bool v1) (.int (IntKind.wrap .i64 (v2 + 1))) v3 v4 v5 v6 v7 v8 v9 v10 v11 (.int v12) (.int v13) (.int v14) (.int v15) (.int v16) (.int v17) (cl v0 v2 2) (.int v19) (.int v20) (.int v21)) (
 cond ((sl F0 1).toInt = 1) (
 Bj v0 (.bool v1) (.int (IntKind.wrap .i64 (v2 + 1))) v3 v4 v5 v6 v7 v8 v9 v10 v11 (.int v12) (.int v13) (.int v14) (.int v15) (.int v16) (.int v17) (.int v18) (cl v0 v2 2) (.int v20) (.int v21)) (
 cond ((sl F0 1).toInt = 2) (
 Bj v0 (.bool v1) (.int (IntKind.wrap .i64 (v2 + 1))) v3 v4 v5 v6 v7 v8 v9 v10 v11 (.int v12) (.int v13) (.int v14) (.int v15) (.int v16) (.int v17) (.int v18) (.int v19) (cl v0 v2 2) (.int v21)) (
 cond ((sl F0 1).toInt = 3) (
 Bj v0 (.bool v1) (.int (IntKind.wrap .i64 (v2 + 1))) v3 v4 v5 v6 v7 v8 v9 v10 v11 (.int v12) (.int v13) (.int v14) (.int v15) (.int v16) (.int v17) (.int v18) (.int v19) (.int v20) (cl v0 v2 2)) (
 .row [])))))) (
 .row [])))) (
 cond ((sl (ED v6 (cl v0 v2 1)) 1).toInt = 0) (
 cond ((IntKind.wrap .i64 ((cl v0 v2 2).toInt + v13)) < 0) (
 .row [.int 1, (.int 0), (.int 0), (.int 0), (.int 0), (.int 0), (.int 3)]) (
 cond ((sl F0 1).toInt < 0) (
 .row []) (
 cond ((sl F0 1).toInt < len v10) (
 cond ((cl v10 (sl F0 1).toInt 1).toInt < (IntKind.wrap .i64 ((cl v0 v2 2).toInt + v13))) (
 .row [.int 1, (.int 0), (.int 0), (.int 0), (.int 0), (.int 0), (.int 3)]) (
 cond ((sl F0 1).toInt = 0) (
 Bj v0 (.bool v1) (.int (IntKind.wrap .i64 (v2 + 1))) v3 v4 v5 v6 v7 v8 v9 v10 v11 (.int v12) (.int v13) (.int v14) (.int v15) (.int v16) (.int v17) (.int (IntKind.wrap .i64 ((cl v0 v2 2).toInt + v13))) (.int v19) (.int v20) (.int v21)) (
 cond ((sl F0 1).toInt = 1) (
 Bj v0 (.bool v1) (.int (IntKind.wrap .i64 (v2 + 1))) v3 v4 v5 v6 v7 v8 v9 v10 v11 (.int v12) (.int v13) (.int v14) (.int v15) (.int v16) (.int v17) (.int v18) (.int (IntKind.wrap .i64 ((cl v0 v2 2).toInt + v13))) (.int v20) (.int v21)) (
 cond ((sl F0 1).toInt = 2) (
 Bj v0 (.bool v1) (.int (IntKind.wrap .i64 (v2 + 1))) v3 v4 v5 v6 v7 v8 v9 v10 v11 (.int v12) (.int v13) (.int v14) (.int v15) (.int v16) (.int v17) (.int v18) (.int v19) (.int (IntKind.wrap .i64 ((cl v0 v2 2).toInt + v13))) (.int v21)) (
 cond ((sl F0 1).toInt = 3) (
 Bj v0 (.bool v1) (.int (IntKind.wrap .i64 (v2 + 1))) v3 v4 v5 v6 v7 v8 v9 v10 v11 (.int v12) (.int v13) (.int v14) (.int v15) (.int v16) (.int v17) (.int v18) (.int v19) (.int v20) (.int (IntKind.wrap .i64 ((cl v0 v2 2).toInt + v13)))) (
 .row [])))))) (
 .row [])))) (
 cond ((sl (ED v6 (cl v0 v2 1)) 1).toInt = 1) (
 cond ((IntKind.wrap .i64 ((cl v0 v2 2).toInt + v14)) < 0) (
 .row [.int 1, (.int 0), (.int 0), (.int 0), (.int 0), (.int 0), (.int 3)]) (
 cond ((sl F0 1).toInt < 0) (
 .row []) (
 cond ((sl F0 1).toInt < len v10) (
 cond ((cl v10 (sl F0 1).toInt 1).toInt < (IntKind.wrap .i64 ((cl v0 v2 2).toInt + v14))) (
 .row [.int 1, (.int 0), (.int 0), (.int 0), (.int 0), (.int 0), (.int 3)]) (
 cond ((sl F0 1).toInt = 0) (
 Bj v0 (.bool v1) (.int (IntKind.wrap .i64 (v2 + 1))) v3 v4 v5 v6 v7 v8 v9 v10 v11 (.int v12) (.int v13) (.int v14) (.int v15) (.int v16) (.int v17) (.int (IntKind.wrap .i64 ((cl v0 v2 2).toInt + v14))) (.int v19) (.int v20) (.int v21)) (
 cond ((sl F0 1).toInt = 1) (
 Bj v0 (.bool v1) (.int (IntKind.wrap .i64 (v2 + 1))) v3 v4 v5 v6 v7 v8 v9 v10 v11 (.int v12) (.int v13) (.int v14) (.int v15) (.int v16) (.int v17) (.int v18) (.int (IntKind.wrap .i64 ((cl v0 v2 2).toInt + v14))) (.int v20) (.int v21)) (
 cond ((sl F0 1).toInt = 2) (
 Bj v0 (.bool v1) (.int (IntKind.wrap .i64 (v2 + 1))) v3 v4 v5 v6 v7 v8 v9 v10 v11 (.int v12) (.int v13) (.int v14) (.int v15) (.int v16) (.int v17) (.int v18) (.int v19) (.int (IntKind.wrap .i64 ((cl v0 v2 2).toInt + v14))) (.int v21)) (
 cond ((sl F0 1).toInt = 3) (
 Bj v0 (.bool v1) (.int (IntKind.wrap .i64 (v2 + 1))) v3 v4 v5 v6 v7 v8 v9 v10 v11 (.int v12) (.int v13) (.int v14) (.int v15) (.int v16) (.int v17) (.int v18) (.int v19) (.int v20) (.int (IntKind.wrap .i64 ((cl v0 v2 2).toInt + v14)))) (
 .row [])))))) (
 .row [])))) (
 cond ((sl (ED v6 (cl v0 v2 1)) 1).toInt = 2) (
 cond ((IntKind.wrap .i64 ((cl v0 v2 2).toInt + v15)) < 0) (
 .row [.int 1, (.int 0), (.int 0), (.int 0), (.int 0), (.int 0), (.int 3)]) (
 cond ((sl F0 1).toInt < 0) (
 .row []) (
 cond ((sl F0 1).toInt < len v10) (
 cond ((cl v10 (sl F0 1).toInt 1).toInt < (IntKind.wrap .i64 ((cl v0 v2 2).toInt + v15))) (
 .row [.int 1, (.int 0), (.int 0), (.int 0), (.int 0), (.int 0), (.int 3)]) (
 cond ((sl F0 1).toInt = 0) (
 Bj v0 (.bool v1) (.int (IntKind.wrap .i64 (v2 + 1))) v3 v4 v5 v6 v7 v8 v9 v10 v11 (.int v12) (.int v13) (.int v14) (.int v15) (.int v16) (.int v17) (.int (IntKind.wrap .i64 ((cl v0 v2 2).toInt + v15))) (.int v19) (.int v20) (.int v21)) (
 cond ((sl F0 1).toInt = 1) (
 Bj v0 (.bool v1) (.int (IntKind.wrap .i64 (v2 + 1))) v3 v4 v5 v6 v7 v8 v9 v10 v11 (.int v12) (.int v13) (.int v14) (.int v15) (.int v16) (.int v17) (.int v18) (.int (IntKind.wrap .i64 ((cl v0 v2 2).toInt + v15))) (.int v20) (.int v21)) (
 cond ((sl F0 1).toInt = 2) (
 Bj v0 (.bool v1) (.int (IntKind.wrap .i64 (v2 + 1))) v3 v4 v5 v6 v7 v8 v9 v10 v11 (.int v12) (.int v13) (.int v14) (.int v15) (.int v16) (.int v17) (.int v18) (.int v19) (.int (IntKind.wrap .i64 ((cl v0 v2 2).toInt + v15))) (.int v21)) (
 cond ((sl F0 1).toInt = 3) (
 Bj v0 (.bool v1) (.int (IntKind.wrap .i64 (v2 + 1))) v3 v4 v5 v6 v7 v8 v9 v10 v11 (.int v12) (.int v13) (.int v14) (.int v15) (.int v16) (.int v17) (.int v18) (.int v19) (.int v20) (.int (IntKind.wrap .i64 ((cl v0 v2 2).toInt + v15)))) (
 .row [])))))) (
 .row [])))) (
 cond ((sl (ED v6 (cl v0 v2 1)) 1).toInt = 3) (
 cond ((IntKind.wrap .i64 ((cl v0 v2 2).toInt + v16)) < 0) (
 .row [.int 1, (.int 0), (.int 0), (.int 0), (.int 0), (.int 0), (.int 3)]) (
 cond ((sl F0 1).toInt < 0) (
 .row []) (
 cond ((sl F0 1).toInt < len v10) (
 cond ((cl v10 (sl F0 1).toInt 1).toInt < (IntKind.wrap .i64 ((cl v0 v2 2).toInt + v16))) (
 .row [.int 1, (.int 0), (.int 0), (.int 0), (.int 0), (.int 0), (.int 3)]) (
 cond ((sl F0 1).toInt = 0) (
 Bj v0 (.bool v1) (.int (IntKind.wrap .i64 (v2 + 1))) v3 v4 v5 v6 v7 v8 v9 v10 v11 (.int v12) (.int v13) (.int v14) (.int v15) (.int v16) (.int v17) (.int (IntKind.wrap .i64 ((cl v0 v2 2).toInt + v16))) (.int v19) (.int v20) (.int v21)) (
 cond ((sl F0 1).toInt = 1) (
 Bj v0 (.bool v1) (.int (IntKind.wrap .i64 (v2 + 1))) v3 v4 v5 v6 v7 v8 v9 v10 v11 (.int v12) (.int v13) (.int v14) (.int v15) (.int v16) (.int v17) (.int v18) (.int (IntKind.wrap .i64 ((cl v0 v2 2).toInt + v16))) (.int v20) (.int v21)) (
 cond ((sl F0 1).toInt = 2) (
 Bj v0 (.bool v1) (.int (IntKind.wrap .i64 (v2 + 1))) v3 v4 v5 v6 v7 v8 v9 v10 v11 (.int v12) (.int v13) (.int v14) (.int v15) (.int v16) (.int v17) (.int v18) (.int v19) (.int (IntKind.wrap .i64 ((cl v0 v2 2).toInt + v16))) (.int v21)) (
 cond ((sl F0 1).toInt = 3) (
 Bj v0 (.bool v1) (.int (IntKind.wrap .i64 (v2 + 1))) v3 v4 v5 v6 v7 v8 v9 v10 v11 (.int v12) (.int v13) (.int v14) (.int v15) (.int v16) (.int v17) (.int v18) (.int v19) (.int v20) (.int (IntKind.wrap .i64 ((cl v0 v2 2).toInt + v16)))) (
 .row [])))))) (
 .row [])))) (
 .row [])))))) (
 .row [])) (
 .row []))) (
 .row [.int 1, (.int v17), (.int v18), (.int v19), (.int v20), (.int v21), (.int 0)]) := by
  subst h0; exact gw rfl rfl (cL (cL rfl (cQ (cQ (cL (cL rfl (cL rfl (cL (cL rfl (cQ rfl (cQ rfl (cQ rfl (cQ rfl rfl))))) rfl))) (cQ (cL rfl (cL rfl (cL (cL rfl (cQ rfl (cQ rfl (cQ rfl (cQ rfl rfl))))) rfl))) (cQ (cL rfl (cL rfl (cL (cL rfl (cQ rfl (cQ rfl (cQ rfl (cQ rfl rfl))))) rfl))) (cQ (cL rfl (cL rfl (cL (cL rfl (cQ rfl (cQ rfl (cQ rfl (cQ rfl rfl))))) rfl))) (cQ (cL rfl (cL rfl (cL (cL rfl (cQ rfl (cQ rfl (cQ rfl (cQ rfl rfl))))) rfl))) rfl))))) rfl) rfl)) rfl)
theorem ZN (v0 : D) (v1 : Bool) (v2 : D) (v3 v4 v5 v6 v7 v8 v9 v10 v11 v12 : Int) : Hs v0 (.bool v1) v2 (.int v3) (.int v4) (.int v5) (.int v6) (.int v7) (.int v8) (.int v9) (.int v10) (.int v11) (.int v12) =
  cond ((mIx [.int .i64, .int .i64, .int .i64, .int .i64, .int .i64, .int .i64, .int .i64, .int .i64, .int .i64, .int .i64] v2 (.row [(.int v3), (.int v4), (.int v5), (.int v6), (.int v7), (.int v8), (.int v9), (.int v10), (.int v11), (.int v12)])) < 0) (
 cond ((len v0 : Int) < 1073741824) (
 .row [.int 1, (ad v0 (.row [(.int v3), (.int v4), (.int v5), (.int v6), (.int v7), (.int v8), (.int v9), (.int v10), (.int v11), (.int v12)])), (.bool false), (ad v2 (.row [(.int v3), (.int v4), (.int v5), (.int v6), (.int v7), (.int v8), (.int v9), (.int v10), (.int v11), (.int v12), (.bool true)]))]) (
 .row [])) (
 cond ((cl v2 (mIx [.int .i64, .int .i64, .int .i64, .int .i64, .int .i64, .int .i64, .int .i64, .int .i64, .int .i64, .int .i64] v2 (.row [(.int v3), (.int v4), (.int v5), (.int v6), (.int v7), (.int v8), (.int v9), (.int v10), (.int v11), (.int v12)])) 10).toBool) (
 .row [.int 1, v0, (.bool v1), v2]) (
 cond ((len v0 : Int) < 1073741824) (
 .row [.int 1, (ad v0 (.row [(.int v3), (.int v4), (.int v5), (.int v6), (.int v7), (.int v8), (.int v9), (.int v10), (.int v11), (.int v12)])), (.bool false), (upd v2 (mIx [.int .i64, .int .i64, .int .i64, .int .i64, .int .i64, .int .i64, .int .i64, .int .i64, .int .i64, .int .i64] v2 (.row [(.int v3), (.int v4), (.int v5), (.int v6), (.int v7), (.int v8), (.int v9), (.int v10), (.int v11), (.int v12)])) 10 (.bool true))]) (
 .row []))) := gw rfl rfl (cL (cL rfl rfl) (cg rfl rfl (cL rfl rfl)))
theorem aW (v0 : D) (v1 : Bool) (v2 v3 v4 v5 : D) (v6 : Bool) : Mz v0 (.bool v1) v2 v3 v4 v5 (.bool v6) =
 Kg v0 (.bool v1) (.int 0) v2 v3 v4 v5 (.bool v6) := gw rfl rfl rfl
theorem Xm (v0 : D) (v1 : Bool) (v2 : Int) (v3 v4 v5 v6 : D) (v7 : Bool) : Kg v0 (.bool v1) (.int v2) v3 v4 v5 v6 (.bool v7) =
  cond (v2 < len v0) (
 cond (v2 < 0) (
 .row []) (
 cond ((cl v0 v2 0).toInt < 0) (
 .row []) (
 cond ((cl v0 v2 0).toInt < len v6) (
 cond ((cl v6 (cl v0 v2 0).toInt 2).toInt = 2) (
 cond (v7) (
 Kg v0 (.bool v1) (.int (IntKind.wrap .i64 (v2 + 1))) v3 v4 v5 v6 (.bool v7)) (
 .row [.int 1, (.int v2)])) (
 cond (v7) (
 .row [.int 1, (.int v2)]) (
 Kg v0 (.bool v1) (.int (IntKind.wrap .i64 (v2 + 1))) v3 v4 v5 v6 (.bool v7)))) (
 .row [])))) (
 .row [.int 1, (.int (-1))]) := gw rfl rfl (cL (cL rfl (cL rfl (cL (cQ rfl rfl) rfl))) rfl)
theorem dU (v0 : D) (v1 : Bool) (v2 v3 v4 v5 : D) (v6 : Bool) : IP v0 (.bool v1) v2 v3 v4 v5 (.bool v6) =
  cond ((sl (Mz v0 (.bool v1) v2 v3 v4 v5 (.bool v6)) 0).toInt = 1) (
 cond ((sl (Mz v0 (.bool v1) v2 v3 v4 v5 (.bool v6)) 1).toInt = (-1)) (
 .row [.int 1, v0, (.bool v1)]) (
 Hv v0 (.bool v1) (sl (Mz v0 (.bool v1) v2 v3 v4 v5 (.bool v6)) 1) (.int (IntKind.wrap .i64 ((sl (Mz v0 (.bool v1) v2 v3 v4 v5 (.bool v6)) 1).toInt + 1))) v2 v3 v4 v5 (.bool v6))) (
 .row []) := gw rfl rfl (cQ (cQ rfl rfl) rfl)
theorem XK (v0 : D) (v1 : Bool) (v2 v3 : Int) (v4 v5 v6 v7 : D) (v8 : Bool) : Hv v0 (.bool v1) (.int v2) (.int v3) v4 v5 v6 v7 (.bool v8) =
  cond (v3 < len v0) (
 cond (v3 < 0) (
 .row []) (
 cond ((cl v0 v3 0).toInt < 0) (
 .row []) (
 cond ((cl v0 v3 0).toInt < len v7) (
 cond ((cl v7 (cl v0 v3 0).toInt 2).toInt = 2) (
 cond (v8) (
 cond (v2 < 0) (
 .row []) (
 cond (v2 < len v0) (
 Hv (upd v0 v2 0 (cl v0 v3 0)) (.bool v1) (.int (IntKind.wrap .i64 (v2 + 1))) (.int (IntKind.wrap .i64 (v3 + 1))) v4 v5 v6 v7 (.bool v8)) (
 .row []))) (
 Hv v0 (.bool v1) (.int v2) (.int (IntKind.wrap .i64 (v3 + 1))) v4 v5 v6 v7 (.bool v8))) (
 cond (v8) (
 Hv v0 (.bool v1) (.int v2) (.int (IntKind.wrap .i64 (v3 + 1))) v4 v5 v6 v7 (.bool v8)) (
 cond (v2 < 0) (
 .row []) (
 cond (v2 < len v0) (
 Hv (upd v0 v2 0 (cl v0 v3 0)) (.bool v1) (.int (IntKind.wrap .i64 (v2 + 1))) (.int (IntKind.wrap .i64 (v3 + 1))) v4 v5 v6 v7 (.bool v8)) (
 .row []))))) (
 .row [])))) (
 cond (v2 < 0) (
 .row []) (
 cond (len v0 < v2) (
 .row []) (
 cond ((len v0 : Int) < (len v0 : Int)) (
 .row []) (
 cond ((len v0 : Int) = (len (sb v0 0 v2) : Int)) (
 cond (len (sb v0 0 v2) < v2) (
 .row []) (
 .row [.int 1, (sb (sb v0 0 v2) 0 v2), (.bool v1)])) (
 cond (len (sb v0 0 v2) < v2) (
 .row []) (
 .row [.int 1, (sb (sb v0 0 v2) 0 v2), (.bool v1)])))))) := gw rfl rfl (cL (cL rfl (cL rfl (cL (cQ rfl rfl) rfl))) (cL rfl (cL rfl (cL rfl (cQ rfl rfl)))))
theorem bZ (v0 v1 v2 v3 v4 v5 v6 v7 v8 v9 : D) (v10 : Bool) (v11 v12 : D) (v13 : Bool) (v14 v15 v16 v17 v18 v19 v20 v21 v22 v23 v24 v25 : Int) (v26 : Bool) {F0 F1 : D} (h0 : Jj (.int v21) (.int v22) (.int v23) (.int v24) (.int v25) v4 v5 v6 v7 = F0) (h1 : Jj (.int v16) (.int v17) (.int v18) (.int v19) (.int v20) v0 v1 v2 v3 = F1) : LQ v0 v1 v2 v3 v4 v5 v6 v7 v8 v9 (.bool v10) v11 v12 (.bool v13) (.int v14) (.int v15) (.int v16) (.int v17) (.int v18) (.int v19) (.int v20) (.int v21) (.int v22) (.int v23) (.int v24) (.int v25) (.bool v26) =
  cond ((sl F1 0).toInt = 1) (
 cond ((sl (IP (sl F1 1) (sl F1 2) v0 v1 v2 v3 (.bool v26)) 0).toInt = 1) (
 cond ((sl F0 0).toInt = 1) (
 cond ((sl (IP (sl F0 1) (sl F0 2) v4 v5 v6 v7 (.bool v26)) 0).toInt = 1) (
 .row [.int 1, (sl (IP (sl F1 1) (sl F1 2) v0 v1 v2 v3 (.bool v26)) 1), (sl (IP (sl F1 1) (sl F1 2) v0 v1 v2 v3 (.bool v26)) 2), (sl (IP (sl F0 1) (sl F0 2) v4 v5 v6 v7 (.bool v26)) 1), (sl (IP (sl F0 1) (sl F0 2) v4 v5 v6 v7 (.bool v26)) 2)]) (
 .row [])) (
 .row [])) (
 .row [])) (
 .row []) := by
  subst h0; subst h1; exact gw rfl rfl (cQ (cQ (cQ (cQ rfl rfl) rfl) rfl) rfl)
theorem br (v0 : D) (v1 : Bool) (v2 v3 v4 v5 v6 v7 v8 v9 : D) (v10 : Int) : RM v0 (.bool v1) v2 v3 v4 v5 v6 v7 v8 v9 (.int v10) =
 Mb v0 (.bool v1) (.int 0) v2 v3 v4 v5 v6 v7 v8 v9 (.int v10) := gw rfl rfl rfl
theorem XF (v0 : D) (v1 : Bool) (v2 : Int) (v3 v4 v5 v6 v7 v8 v9 v10 : D) (v11 : Int) : Mb v0 (.bool v1) (.int v2) v3 v4 v5 v6 v7 v8 v9 v10 (.int v11) =
  cond (v2 < len v0) (
 cond (v2 < 0) (
 .row []) (
 cond ((cl v0 v2 0).toInt < 0) (
 .row []) (
 cond ((cl v0 v2 0).toInt < len v6) (
 cond (v11 < 0) (
 .row []) (
 cond (v11 < len v10) (
 cond ((decide ((cl v6 (cl v0 v2 0).toInt 2).toInt = (cl v10 v11 2).toInt) && (D.strEq (cl v6 (cl v0 v2 0).toInt 3) (cl v10 v11 3) && D.strEq (cl v6 (cl v0 v2 0).toInt 4) (cl v10 v11 4)))) (
 .row [.int 1, (.int v2)]) (
 Mb v0 (.bool v1) (.int (IntKind.wrap .i64 (v2 + 1))) v3 v4 v5 v6 v7 v8 v9 v10 (.int v11))) (
 .row []))) (
 .row [])))) (
 .row [.int 1, (.int (-1))]) := gw rfl rfl (cL (cL rfl (cL rfl (cL (cL rfl (cL (cg (aE (qE rfl rfl) (aE rfl rfl)) rfl rfl) rfl)) rfl))) rfl)
theorem fS (v0 v1 v2 v3 v4 : D) (v5 : Bool) (v6 v7 v8 v9 v10 : D) (v11 : Bool) : Jg v0 v1 v2 v3 v4 (.bool v5) v6 v7 v8 v9 v10 (.bool v11) =
 RI v10 (.bool v11) v4 (.bool v5) (.int 0) v0 v1 v2 v3 v6 v7 v8 v9 := gw rfl rfl rfl
theorem XJ (v0 : D) (v1 : Bool) (v2 : D) (v3 : Bool) (v4 : Int) (v5 v6 v7 v8 v9 v10 v11 v12 : D) : RI v0 (.bool v1) v2 (.bool v3) (.int v4) v5 v6 v7 v8 v9 v10 v11 v12 =
  cond (v4 < len v2) (
 cond (v4 < 0) (
 .row []) (
 cond ((sl (RM v0 (.bool v1) v9 v10 v11 v12 v5 v6 v7 v8 (cl v2 v4 0)) 0).toInt = 1) (
 cond ((sl (RM v0 (.bool v1) v9 v10 v11 v12 v5 v6 v7 v8 (cl v2 v4 0)) 1).toInt < 0) (
 .row [.int 1, (cl v2 v4 0), (.bool true)]) (
 RI v0 (.bool v1) v2 (.bool v3) (.int (IntKind.wrap .i64 (v4 + 1))) v5 v6 v7 v8 v9 v10 v11 v12)) (
 .row []))) (
 .row [.int 1, (.int 0), (.bool false)]) := gw rfl rfl (cL (cL rfl (cQ rfl rfl)) rfl)
theorem fJ (v0 v1 v2 v3 v4 v5 v6 v7 v8 v9 : D) (v10 : Bool) (v11 v12 : D) (v13 : Bool) (v14 v15 v16 v17 v18 v19 v20 v21 v22 v23 v24 v25 : Int) {F0 F1 : D} (h0 : LQ v0 v1 v2 v3 v4 v5 v6 v7 v8 v9 (.bool v10) v11 v12 (.bool v13) (.int v14) (.int v15) (.int v16) (.int v17) (.int v18) (.int v19) (.int v20) (.int v21) (.int v22) (.int v23) (.int v24) (.int v25) (.bool false) = F0) (h1 : LQ v0 v1 v2 v3 v4 v5 v6 v7 v8 v9 (.bool v10) v11 v12 (.bool v13) (.int v14) (.int v15) (.int v16) (.int v17) (.int v18) (.int v19) (.int v20) (.int v21) (.int v22) (.int v23) (.int v24) (.int v25) (.bool true) = F1) : U9 v0 v1 v2 v3 v4 v5 v6 v7 v8 v9 (.bool v10) v11 v12 (.bool v13) (.int v14) (.int v15) (.int v16) (.int v17) (.int v18) (.int v19) (.int v20) (.int v21) (.int v22) (.int v23) (.int v24) (.int v25) =
  cond ((sl F1 0).toInt = 1) (
 cond ((sl (Jg v0 v1 v2 v3 (sl F1 1) (sl F1 2) v4 v5 v6 v7 (sl F1 3) (sl F1 4)) 0).toInt = 1) (
 cond ((sl (Jg v0 v1 v2 v3 (sl F1 1) (sl F1 2) v4 v5 v6 v7 (sl F1 3) (sl F1 4)) 2).toBool) (
 .row [.int 1, (.int 1), (sl (Jg v0 v1 v2 v3 (sl F1 1) (sl F1 2) v4 v5 v6 v7 (sl F1 3) (sl F1 4)) 1)]) (
 cond ((sl F0 0).toInt = 1) (
 cond ((sl (Jg v4 v5 v6 v7 (sl F0 3) (sl F0 4) v0 v1 v2 v3 (sl F0 1) (sl F0 2)) 0).toInt = 1) (
 cond ((sl (Jg v4 v5 v6 v7 (sl F0 3) (sl F0 4) v0 v1 v2 v3 (sl F0 1) (sl F0 2)) 2).toBool) (
 .row [.int 1, (.int 2), (sl (Jg v4 v5 v6 v7 (sl F0 3) (sl F0 4) v0 v1 v2 v3 (sl F0 1) (sl F0 2)) 1)]) (
 cond (0 < (len (sl F0 1) : Int)) (
 cond ((len (sl F0 3) : Int) = 0) (
 .row [.int 1, (.int 3), (.int 0)]) (
 cond (v16 < 0) (
 .row []) (
 cond (v16 < len v1) (
 cond (v21 < 0) (
 .row []) (
 cond (v21 < len v5) (
 cond ((cl v1 v16 1).toBool) (
 cond ((cl v5 v21 1).toBool) (
 .row [.int 1, (.int 0), (.int 0)]) (
 .row [.int 1, (.int 4), (.int 0)])) (
 cond ((cl v5 v21 1).toBool) (
 .row [.int 1, (.int 4), (.int 0)]) (
 .row [.int 1, (.int 0), (.int 0)]))) (
 .row []))) (
 .row [])))) (
 cond (v16 < 0) (
 .row []) (
 cond (v16 < len v1) (
 cond (v21 < 0) (
 .row []) (
 cond (v21 < len v5) (
 cond ((cl v1 v16 1).toBool) (
 cond ((cl v5 v21 1).toBool) (
 .row [.int 1, (.int 0), (.int 0)]) (
 .row [.int 1, (.int 4), (.int 0)])) (
 cond ((cl v5 v21 1).toBool) (
 .row [.int 1, (.int 4), (.int 0)]) (
 .row [.int 1, (.int 0), (.int 0)]))) (
 .row []))) (
 .row []))))) (
 .row [])) (
 .row []))) (
 .row [])) (
 .row []) := by
  subst h0; subst h1; exact gw rfl rfl (cQ (cQ (cg rfl rfl (cQ (cQ (cg rfl rfl (cL (cQ rfl rfl) rfl)) rfl) rfl)) rfl) rfl)
theorem eA (v0 v1 v2 v3 v4 : Int) (v5 v6 v7 v8 : D) : Ji (.int v0) (.int v1) (.int v2) (.int v3) (.int v4) v5 v6 v7 v8 =
  cond (v0 < 0) (
 .row []) (
 cond (v0 < len v6) (
 cond ((len v7 : Int) = 0) (
 .row [.int 1, (cl v6 v0 0), Aw]) (
 cond ((len v7 : Int) = 1) (
 .row [.int 1, (cl v6 v0 0), (ad Aw (.row [(.int v1)]))]) (
 cond ((len v7 : Int) = 2) (
 .row [.int 1, (cl v6 v0 0), (ad (ad Aw (.row [(.int v1)])) (.row [(.int v2)]))]) (
 cond ((len v7 : Int) = 3) (
 .row [.int 1, (cl v6 v0 0), (ad (ad (ad Aw (.row [(.int v1)])) (.row [(.int v2)])) (.row [(.int v3)]))]) (
 cond ((len v7 : Int) = 4) (
 .row [.int 1, (cl v6 v0 0), (ad (ad (ad (ad Aw (.row [(.int v1)])) (.row [(.int v2)])) (.row [(.int v3)])) (.row [(.int v4)]))]) (
 .row [])))))) (
 .row [])) := gw rfl rfl (cL rfl (cL (cQ rfl (cQ rfl (cQ rfl (cQ rfl (cQ rfl rfl))))) rfl))
theorem XR (v0 v1 v2 v3 v4 v5 v6 v7 v8 v9 : D) (v10 : Bool) (v11 v12 : D) (v13 : Bool) (v14 v15 v16 v17 v18 v19 v20 v21 v22 v23 v24 v25 : Int) (v26 : D) (v27 : Bool) (v28 : D) {F0 F1 : D} (h0 : LQ v0 v1 v2 v3 v4 v5 v6 v7 v8 v9 (.bool v10) v11 v12 (.bool v13) (.int v14) (.int v15) (.int v16) (.int v17) (.int v18) (.int v19) (.int v20) (.int v21) (.int v22) (.int v23) (.int v24) (.int v25) (.bool true) = F0) (h1 : U9 v0 v1 v2 v3 v4 v5 v6 v7 v8 v9 (.bool v10) v11 v12 (.bool v13) (.int v14) (.int v15) (.int v16) (.int v17) (.int v18) (.int v19) (.int v20) (.int v21) (.int v22) (.int v23) (.int v24) (.int v25) = F1) : L7 v0 v1 v2 v3 v4 v5 v6 v7 v8 v9 (.bool v10) v11 v12 (.bool v13) (.int v14) (.int v15) (.int v16) (.int v17) (.int v18) (.int v19) (.int v20) (.int v21) (.int v22) (.int v23) (.int v24) (.int v25) v26 (.bool v27) v28 =
  cond ((sl F1 0).toInt = 1) (
 cond ((sl F1 1).toInt = 0) (
 cond ((sl F0 0).toInt = 1) (
 Md (sl F0 3) (sl F0 4) (sl F0 1) (sl F0 2) (.int (len (sl F0 1) : Int)) (.int 0) v0 v1 v2 v3 v4 v5 v6 v7 v8 v9 (.bool v10) v11 v12 (.bool v13) (.int v14) (.int v15) v26 (.bool v27) v28 (.int v16) (.int v17) (.int v18) (.int v19) (.int v20) (.int v21) (.int v22) (.int v23) (.int v24) (.int v25)) (
 .row [])) (
 cond ((sl (Ji (.int v16) (.int v17) (.int v18) (.int v19) (.int v20) v0 v1 v2 v3) 0).toInt = 1) (
 cond ((sl (Ji (.int v21) (.int v22) (.int v23) (.int v24) (.int v25) v4 v5 v6 v7) 0).toInt = 1) (
 .row [.int 1, (.bool true), v0, v1, v2, v3, v4, v5, v6, v7, (sl (Ji (.int v16) (.int v17) (.int v18) (.int v19) (.int v20) v0 v1 v2 v3) 1), (sl (Ji (.int v16) (.int v17) (.int v18) (.int v19) (.int v20) v0 v1 v2 v3) 2), (.bool false), (sl (Ji (.int v21) (.int v22) (.int v23) (.int v24) (.int v25) v4 v5 v6 v7) 1), (sl (Ji (.int v21) (.int v22) (.int v23) (.int v24) (.int v25) v4 v5 v6 v7) 2), (.bool false), (sl F1 1), (sl F1 2), v26, (.bool v27), v28]) (
 .row [])) (
 .row []))) (
 .row []) := by
  subst h0; subst h1; exact gw rfl rfl (cQ (cQ (cQ rfl rfl) (cQ (cQ rfl rfl) rfl)) rfl)
theorem XX (v0 : D) (v1 : Bool) (v2 : D) (v3 : Bool) (v4 v5 : Int) (v6 v7 v8 v9 v10 v11 v12 v13 v14 v15 : D) (v16 : Bool) (v17 v18 : D) (v19 : Bool) (v20 v21 : Int) (v22 : D) (v23 : Bool) (v24 : D) (v25 v26 v27 v28 v29 v30 v31 v32 v33 v34 : Int) {F0 : D} (h0 : LQ v6 v7 v8 v9 v10 v11 v12 v13 v14 v15 (.bool v16) v17 v18 (.bool v19) (.int v20) (.int v21) (.int v25) (.int v26) (.int v27) (.int v28) (.int v29) (.int v30) (.int v31) (.int v32) (.int v33) (.int v34) (.bool false) = F0) : Md v0 (.bool v1) v2 (.bool v3) (.int v4) (.int v5) v6 v7 v8 v9 v10 v11 v12 v13 v14 v15 (.bool v16) v17 v18 (.bool v19) (.int v20) (.int v21) v22 (.bool v23) v24 (.int v25) (.int v26) (.int v27) (.int v28) (.int v29) (.int v30) (.int v31) (.int v32) (.int v33) (.int v34) =
  cond (v5 < v4) (
 cond (v5 < 0) (
 .row []) (
 cond (v5 < len v2) (
 Ob v0 (.bool v1) (cl v2 v5 0) v2 (.bool v3) (.int v4) (.int v5) (.int 0) v6 v7 v8 v9 v10 v11 v12 v13 v14 v15 (.bool v16) v17 v18 (.bool v19) (.int v20) (.int v21) v22 (.bool v23) v24 (.int v25) (.int v26) (.int v27) (.int v28) (.int v29) (.int v30) (.int v31) (.int v32) (.int v33) (.int v34)) (
 .row []))) (
 cond ((sl F0 0).toInt = 1) (
 Oo (sl F0 1) (sl F0 2) (sl F0 3) (sl F0 4) (.int (len (sl F0 3) : Int)) (.int 0) v6 v7 v8 v9 v10 v11 v12 v13 v14 v15 (.bool v16) v17 v18 (.bool v19) (.int v20) (.int v21) v22 (.bool v23) v24 (.int v25) (.int v26) (.int v27) (.int v28) (.int v29) (.int v30) (.int v31) (.int v32) (.int v33) (.int v34)) (
 .row [])) := by
  subst h0; exact gw rfl rfl (cL rfl (cQ rfl rfl))
theorem XE (v0 : D) (v1 : Bool) (v2 : Int) (v3 : D) (v4 : Bool) (v5 v6 v7 : Int) (v8 v9 v10 v11 v12 v13 v14 v15 v16 v17 : D) (v18 : Bool) (v19 v20 : D) (v21 : Bool) (v22 v23 : Int) (v24 : D) (v25 : Bool) (v26 : D) (v27 v28 v29 v30 v31 v32 v33 v34 v35 v36 : Int) {F0 F1 F2 : D} (h0 : GA (.int v32) (.int v33) (.int v34) (.int v35) (.int v36) v12 v13 v14 v15 (cl v0 v7 0) = F0) (h1 : GA (.int v27) (.int v28) (.int v29) (.int v30) (.int v31) v8 v9 v10 v11 (.int v2) = F1) (h2 : Hs v24 (.bool v25) v26 (sl F1 1) (sl F1 2) (sl F1 3) (sl F1 4) (sl F1 5) (sl F0 1) (sl F0 2) (sl F0 3) (sl F0 4) (sl F0 5) = F2) : Ob v0 (.bool v1) (.int v2) v3 (.bool v4) (.int v5) (.int v6) (.int v7) v8 v9 v10 v11 v12 v13 v14 v15 v16 v17 (.bool v18) v19 v20 (.bool v21) (.int v22) (.int v23) v24 (.bool v25) v26 (.int v27) (.int v28) (.int v29) (.int v30) (.int v31) (.int v32) (.int v33) (.int v34) (.int v35) (.int v36) =
  cond (v7 < len v0) (
 cond (v7 < 0) (
 .row []) (
 cond (v2 < 0) (
 .row []) (
 cond (v2 < len v11) (
 cond ((cl v0 v7 0).toInt < 0) (
 .row []) (
 cond ((cl v0 v7 0).toInt < len v15) (
 cond ((decide ((cl v11 v2 2).toInt = (cl v15 (cl v0 v7 0).toInt 2).toInt) && (D.strEq (cl v11 v2 3) (cl v15 (cl v0 v7 0).toInt 3) && D.strEq (cl v11 v2 4) (cl v15 (cl v0 v7 0).toInt 4)))) (
 cond ((sl F1 0).toInt = 1) (
 cond ((sl F0 0).toInt = 1) (
 cond ((sl F2 0).toInt = 1) (
 Ob v0 (.bool v1) (.int v2) v3 (.bool v4) (.int v5) (.int v6) (.int (IntKind.wrap .i64 (v7 + 1))) v8 v9 v10 v11 v12 v13 v14 v15 v16 v17 (.bool v18) v19 v20 (.bool v21) (.int v22) (.int v23) (sl F2 1) (sl F2 2) (sl F2 3) (.int v27) (.int v28) (.int v29) (.int v30) (.int v31) (.int v32) (.int v33) (.int v34) (.int v35) (.int v36)) (
 .row [])) (
 .row [])) (
 .row [])) (
 Ob v0 (.bool v1) (.int v2) v3 (.bool v4) (.int v5) (.int v6) (.int (IntKind.wrap .i64 (v7 + 1))) v8 v9 v10 v11 v12 v13 v14 v15 v16 v17 (.bool v18) v19 v20 (.bool v21) (.int v22) (.int v23) v24 (.bool v25) v26 (.int v27) (.int v28) (.int v29) (.int v30) (.int v31) (.int v32) (.int v33) (.int v34) (.int v35) (.int v36))) (
 .row []))) (
 .row [])))) (
 Md v0 (.bool v1) v3 (.bool v4) (.int v5) (.int (IntKind.wrap .i64 (v6 + 1))) v8 v9 v10 v11 v12 v13 v14 v15 v16 v17 (.bool v18) v19 v20 (.bool v21) (.int v22) (.int v23) v24 (.bool v25) v26 (.int v27) (.int v28) (.int v29) (.int v30) (.int v31) (.int v32) (.int v33) (.int v34) (.int v35) (.int v36)) := by
  subst h0; subst h1; subst h2; exact gw rfl rfl (cL (cL rfl (cL rfl (cL (cL rfl (cL (cg (aE (qE rfl rfl) (aE rfl rfl)) (cQ (cQ (cQ rfl rfl) rfl) rfl) rfl) rfl)) rfl))) rfl)
theorem XS (v0 : D) (v1 : Bool) (v2 : D) (v3 : Bool) (v4 v5 : Int) (v6 v7 v8 v9 v10 v11 v12 v13 v14 v15 : D) (v16 : Bool) (v17 v18 : D) (v19 : Bool) (v20 v21 : Int) (v22 : D) (v23 : Bool) (v24 : D) (v25 v26 v27 v28 v29 v30 v31 v32 v33 v34 : Int) : Oo v0 (.bool v1) v2 (.bool v3) (.int v4) (.int v5) v6 v7 v8 v9 v10 v11 v12 v13 v14 v15 (.bool v16) v17 v18 (.bool v19) (.int v20) (.int v21) v22 (.bool v23) v24 (.int v25) (.int v26) (.int v27) (.int v28) (.int v29) (.int v30) (.int v31) (.int v32) (.int v33) (.int v34) =
  cond (v5 < v4) (
 cond (v5 < 0) (
 .row []) (
 cond (v5 < len v2) (
 OI v0 (.bool v1) (cl v2 v5 0) v2 (.bool v3) (.int v4) (.int v5) (.int 0) v6 v7 v8 v9 v10 v11 v12 v13 v14 v15 (.bool v16) v17 v18 (.bool v19) (.int v20) (.int v21) v22 (.bool v23) v24 (.int v25) (.int v26) (.int v27) (.int v28) (.int v29) (.int v30) (.int v31) (.int v32) (.int v33) (.int v34)) (
 .row []))) (
 .row [.int 1, (.bool false), v6, v7, v8, v9, v10, v11, v12, v13, v14, v15, (.bool v16), v17, v18, (.bool v19), (.int v20), (.int v21), v22, (.bool v23), v24]) := gw rfl rfl rfl
theorem Xq (v0 : D) (v1 : Bool) (v2 : Int) (v3 : D) (v4 : Bool) (v5 v6 v7 : Int) (v8 v9 v10 v11 v12 v13 v14 v15 v16 v17 : D) (v18 : Bool) (v19 v20 : D) (v21 : Bool) (v22 v23 : Int) (v24 : D) (v25 : Bool) (v26 : D) (v27 v28 v29 v30 v31 v32 v33 v34 v35 v36 : Int) {F0 F1 F2 : D} (h0 : GA (.int v27) (.int v28) (.int v29) (.int v30) (.int v31) v8 v9 v10 v11 (cl v0 v7 0) = F0) (h1 : GA (.int v32) (.int v33) (.int v34) (.int v35) (.int v36) v12 v13 v14 v15 (.int v2) = F1) (h2 : Hs v24 (.bool v25) v26 (sl F0 1) (sl F0 2) (sl F0 3) (sl F0 4) (sl F0 5) (sl F1 1) (sl F1 2) (sl F1 3) (sl F1 4) (sl F1 5) = F2) : OI v0 (.bool v1) (.int v2) v3 (.bool v4) (.int v5) (.int v6) (.int v7) v8 v9 v10 v11 v12 v13 v14 v15 v16 v17 (.bool v18) v19 v20 (.bool v21) (.int v22) (.int v23) v24 (.bool v25) v26 (.int v27) (.int v28) (.int v29) (.int v30) (.int v31) (.int v32) (.int v33) (.int v34) (.int v35) (.int v36) =
  cond (v7 < len v0) (
 cond (v7 < 0) (
 .row []) (
 cond ((cl v0 v7 0).toInt < 0) (
 .row []) (
 cond ((cl v0 v7 0).toInt < len v11) (
 cond (v2 < 0) (
 .row []) (
 cond (v2 < len v15) (
 cond ((decide ((cl v11 (cl v0 v7 0).toInt 2).toInt = (cl v15 v2 2).toInt) && (D.strEq (cl v11 (cl v0 v7 0).toInt 3) (cl v15 v2 3) && D.strEq (cl v11 (cl v0 v7 0).toInt 4) (cl v15 v2 4)))) (
 cond ((sl F0 0).toInt = 1) (
 cond ((sl F1 0).toInt = 1) (
 cond ((sl F2 0).toInt = 1) (
 OI v0 (.bool v1) (.int v2) v3 (.bool v4) (.int v5) (.int v6) (.int (IntKind.wrap .i64 (v7 + 1))) v8 v9 v10 v11 v12 v13 v14 v15 v16 v17 (.bool v18) v19 v20 (.bool v21) (.int v22) (.int v23) (sl F2 1) (sl F2 2) (sl F2 3) (.int v27) (.int v28) (.int v29) (.int v30) (.int v31) (.int v32) (.int v33) (.int v34) (.int v35) (.int v36)) (
 .row [])) (
 .row [])) (
 .row [])) (
 OI v0 (.bool v1) (.int v2) v3 (.bool v4) (.int v5) (.int v6) (.int (IntKind.wrap .i64 (v7 + 1))) v8 v9 v10 v11 v12 v13 v14 v15 v16 v17 (.bool v18) v19 v20 (.bool v21) (.int v22) (.int v23) v24 (.bool v25) v26 (.int v27) (.int v28) (.int v29) (.int v30) (.int v31) (.int v32) (.int v33) (.int v34) (.int v35) (.int v36))) (
 .row []))) (
 .row [])))) (
 Oo v0 (.bool v1) v3 (.bool v4) (.int v5) (.int (IntKind.wrap .i64 (v6 + 1))) v8 v9 v10 v11 v12 v13 v14 v15 v16 v17 (.bool v18) v19 v20 (.bool v21) (.int v22) (.int v23) v24 (.bool v25) v26 (.int v27) (.int v28) (.int v29) (.int v30) (.int v31) (.int v32) (.int v33) (.int v34) (.int v35) (.int v36)) := by
  subst h0; subst h1; subst h2; exact gw rfl rfl (cL (cL rfl (cL rfl (cL (cL rfl (cL (cg (aE (qE rfl rfl) (aE rfl rfl)) (cQ (cQ (cQ rfl rfl) rfl) rfl) rfl) rfl)) rfl))) rfl)
theorem eN (v0 : D) (v1 : Bool) (v2 : Int) (v3 v4 v5 v6 v7 v8 v9 v10 v11 v12 : D) (v13 : Bool) (v14 v15 : D) (v16 : Bool) (v17 v18 : Int) : TE v0 (.bool v1) (.int v2) v3 v4 v5 v6 v7 v8 v9 v10 v11 v12 (.bool v13) v14 v15 (.bool v16) (.int v17) (.int v18) =
 OT (.int v2) v0 (.bool v1) (.int 0) v3 v4 v5 v6 v7 v8 v9 v10 v11 v12 (.bool v13) v14 v15 (.bool v16) (.int v17) (.int v18) A3 (.bool true) Aw := gw rfl rfl rfl
theorem XG (v0 : Int) (v1 : D) (v2 : Bool) (v3 : Int) (v4 v5 v6 v7 v8 v9 v10 v11 v12 v13 : D) (v14 : Bool) (v15 v16 : D) (v17 : Bool) (v18 v19 : Int) (v20 : D) (v21 : Bool) (v22 : D) : OT (.int v0) v1 (.bool v2) (.int v3) v4 v5 v6 v7 v8 v9 v10 v11 v12 v13 (.bool v14) v15 v16 (.bool v17) (.int v18) (.int v19) v20 (.bool v21) v22 =
  cond (v3 < len v1) (
 cond (v3 < 0) (
 .row []) (
 cond ((sl (Hs v20 (.bool v21) v22 (cl v1 v3 0) (cl v1 v3 1) (cl v1 v3 2) (cl v1 v3 3) (cl v1 v3 4) (cl v1 v3 5) (cl v1 v3 6) (cl v1 v3 7) (cl v1 v3 8) (cl v1 v3 9)) 0).toInt = 1) (
 OT (.int v0) v1 (.bool v2) (.int (IntKind.wrap .i64 (v3 + 1))) v4 v5 v6 v7 v8 v9 v10 v11 v12 v13 (.bool v14) v15 v16 (.bool v17) (.int v18) (.int v19) (sl (Hs v20 (.bool v21) v22 (cl v1 v3 0) (cl v1 v3 1) (cl v1 v3 2) (cl v1 v3 3) (cl v1 v3 4) (cl v1 v3 5) (cl v1 v3 6) (cl v1 v3 7) (cl v1 v3 8) (cl v1 v3 9)) 1) (sl (Hs v20 (.bool v21) v22 (cl v1 v3 0) (cl v1 v3 1) (cl v1 v3 2) (cl v1 v3 3) (cl v1 v3 4) (cl v1 v3 5) (cl v1 v3 6) (cl v1 v3 7) (cl v1 v3 8) (cl v1 v3 9)) 2) (sl (Hs v20 (.bool v21) v22 (cl v1 v3 0) (cl v1 v3 1) (cl v1 v3 2) (cl v1 v3 3) (cl v1 v3 4) (cl v1 v3 5) (cl v1 v3 6) (cl v1 v3 7) (cl v1 v3 8) (cl v1 v3 9)) 3)) (
 .row []))) (
 OM (.int v0) (.int 0) v1 v4 v5 v6 v7 v8 v9 v10 v11 v12 v13 (.bool v14) v15 v16 (.bool v17) (.int v18) (.int v19) v20 (.bool v21) v22) := gw rfl rfl (cL (cL rfl (cQ rfl rfl)) rfl)
theorem RF (v0 v1 : Int) (v2 v3 v4 v5 v6 v7 v8 v9 v10 v11 v12 : D) (v13 : Bool) (v14 v15 : D) (v16 : Bool) (v17 v18 : Int) (v19 : D) (v20 : Bool) (v21 : D) {F0 : D} (h0 : L7 v3 v4 v5 v6 v7 v8 v9 v10 v11 v12 (.bool v13) v14 v15 (.bool v16) (.int v17) (.int v18) (cl v19 v1 0) (cl v19 v1 1) (cl v19 v1 2) (cl v19 v1 3) (cl v19 v1 4) (cl v19 v1 5) (cl v19 v1 6) (cl v19 v1 7) (cl v19 v1 8) (cl v19 v1 9) v19 (.bool v20) v21 = F0) : OM (.int v0) (.int v1) v2 v3 v4 v5 v6 v7 v8 v9 v10 v11 v12 (.bool v13) v14 v15 (.bool v16) (.int v17) (.int v18) v19 (.bool v20) v21 =
  cond (v1 < len v19) (
 cond (v1 < v0) (
 cond (v1 < 0) (
 .row []) (
 cond ((sl F0 0).toInt = 1) (
 cond ((sl F0 1).toBool) (
 .row [.int 1, (sl F0 18), (sl F0 19), (.bool false), (sl F0 2), (sl F0 3), (sl F0 4), (sl F0 5), (sl F0 6), (sl F0 7), (sl F0 8), (sl F0 9), (sl F0 10), (sl F0 11), (sl F0 12), (sl F0 13), (sl F0 14), (sl F0 15), (sl F0 16), (sl F0 17)]) (
 OM (.int v0) (.int (IntKind.wrap .i64 (v1 + 1))) v2 (sl F0 2) (sl F0 3) (sl F0 4) (sl F0 5) (sl F0 6) (sl F0 7) (sl F0 8) (sl F0 9) (sl F0 10) (sl F0 11) (sl F0 12) (sl F0 13) (sl F0 14) (sl F0 15) (sl F0 16) (sl F0 17) (sl F0 18) (sl F0 19) (sl F0 20))) (
 .row []))) (
 .row [.int 1, v19, (.bool v20), (.bool (decide (v0 < (len v19 : Int)))), v3, v4, v5, v6, v7, v8, v9, v10, v11, v12, (.bool v13), v14, v15, (.bool v16), (.int v17), (.int v18)])) (
 .row [.int 1, v19, (.bool v20), (.bool (decide (v0 < (len v19 : Int)))), v3, v4, v5, v6, v7, v8, v9, v10, v11, v12, (.bool v13), v14, v15, (.bool v16), (.int v17), (.int v18)]) := by
  subst h0; exact gw rfl rfl (cL (cL (cL rfl (cQ rfl rfl)) rfl) rfl)
theorem aN (v0 v1 v2 v3 v4 v5 v6 v7 v8 : D) (v9 : Bool) (v10 : D) (v11 : Bool) {F0 : D} (h0 : Up (ad Aw (.row [(.int 0), (.int 0), (.int 0), (.int 0), (.int 0)])) (.bool false) (.int 2000) v0 v1 v2 v3 = F0) : Jc v0 v1 v2 v3 v4 v5 v6 v7 v8 (.bool v9) v10 (.bool v11) =
  cond ((sl (Mg v0 v1 v2 v3 v4 v5 v6 v7 v8 (.bool v9) v10 (.bool v11)) 0).toInt = 1) (
 cond ((sl (Mg v0 v1 v2 v3 v4 v5 v6 v7 v8 (.bool v9) v10 (.bool v11)) 2).toInt = 0) (
 cond ((sl F0 0).toInt = 1) (
 cond ((sl F0 3).toBool) (
 .row [.int 1, (Fr 0 0), A3, (.bool true), (Fr 0 0), A3, (.bool true), (.int 0), (.int 0), (.bool false), (.int 7)]) (
 Kv A3 (.bool true) (sl F0 1) (sl F0 2) (.int (len (sl F0 1) : Int)) (.int 0) v8 v10 v0 v1 v2 v3 v4 v5 v6 v7 (.bool v9) (.bool v11))) (
 .row [])) (
 .row [.int 1, (Fr 0 0), A3, (.bool true), (Fr 0 0), A3, (.bool true), (.int 0), (.int 0), (.bool false), (sl (Mg v0 v1 v2 v3 v4 v5 v6 v7 v8 (.bool v9) v10 (.bool v11)) 2)])) (
 .row []) := by
  subst h0; exact gw rfl rfl (cQ (cQ (cQ (cg rfl rfl rfl) rfl) rfl) rfl)
theorem U4 (v0 : D) (v1 : Bool) (v2 : D) (v3 : Bool) (v4 v5 : Int) (v6 v7 v8 v9 v10 v11 v12 v13 v14 v15 : D) (v16 v17 : Bool) {F0 F1 : D} (h0 : TE v0 (.bool v1) (.int 4000) v8 v9 v10 v11 v12 v13 v14 v15 (Fr 0 0) A3 (.bool true) (Fr 0 0) A3 (.bool true) (.int 0) (.int 0) = F0) (h1 : NB v8 v9 v10 v11 v12 v13 v14 v15 v6 (.bool v16) v7 (.bool v17) (cl v2 v5 0) (cl v2 v5 1) (cl v2 v5 2) (cl v2 v5 3) (cl v2 v5 4) = F1) : Kv v0 (.bool v1) v2 (.bool v3) (.int v4) (.int v5) v6 v7 v8 v9 v10 v11 v12 v13 v14 v15 (.bool v16) (.bool v17) =
  cond (v5 < v4) (
 cond (v5 < 0) (
 .row []) (
 cond (v5 < len v2) (
 cond ((sl F1 0).toInt = 1) (
 cond ((sl F1 6).toInt = 0) (
 cond ((len v0 : Int) < 1073741824) (
 Kv (ad v0 (.row [(cl v2 v5 0), (cl v2 v5 1), (cl v2 v5 2), (cl v2 v5 3), (cl v2 v5 4), (sl F1 1), (sl F1 2), (sl F1 3), (sl F1 4), (sl F1 5)])) (.bool false) v2 (.bool v3) (.int v4) (.int (IntKind.wrap .i64 (v5 + 1))) v6 v7 v8 v9 v10 v11 v12 v13 v14 v15 (.bool v16) (.bool v17)) (
 .row [])) (
 Kv v0 (.bool v1) v2 (.bool v3) (.int v4) (.int (IntKind.wrap .i64 (v5 + 1))) v6 v7 v8 v9 v10 v11 v12 v13 v14 v15 (.bool v16) (.bool v17))) (
 .row [])) (
 .row []))) (
 cond ((sl F0 0).toInt = 1) (
 cond ((sl F0 3).toBool) (
 .row [.int 1, (Fr 0 0), A3, (.bool true), (Fr 0 0), A3, (.bool true), (.int 0), (.int 0), (.bool false), (.int 7)]) (
 .row [.int 1, (sl F0 12), (sl F0 13), (sl F0 14), (sl F0 15), (sl F0 16), (sl F0 17), (sl F0 18), (sl F0 19), (.bool (decide ((sl F0 18).toInt = 0))), (.int 0)])) (
 .row [])) := by
  subst h0; subst h1; exact gw rfl rfl (cL (cL rfl (cL (cQ (cQ (cL rfl rfl) rfl) rfl) rfl)) (cQ (cg rfl rfl rfl) rfl))
theorem bo (v0 v1 v2 v3 : D) : Xk v0 v1 v2 v3 =
 KM (.int 0) (.int 0) v0 v1 v2 v3 := gw rfl rfl rfl
theorem X0 (v0 v1 : Int) (v2 v3 v4 v5 : D) : KM (.int v0) (.int v1) v2 v3 v4 v5 =
  cond (v1 < len v4) (
 cond (v1 < 0) (
 .row []) (
 cond ((cl v4 v1 1).toInt < 0) (
 KM (.int (IntKind.wrap .i64 (v0 + 0))) (.int (IntKind.wrap .i64 (v1 + 1))) v2 v3 v4 v5) (
 cond (100 < (cl v4 v1 1).toInt) (
 KM (.int (IntKind.wrap .i64 (v0 + 100))) (.int (IntKind.wrap .i64 (v1 + 1))) v2 v3 v4 v5) (
 KM (.int (IntKind.wrap .i64 (v0 + (cl v4 v1 1).toInt))) (.int (IntKind.wrap .i64 (v1 + 1))) v2 v3 v4 v5)))) (
 cond (8 < (len v3 : Int)) (
 cond ((sl (Lz) 0).toInt = 1) (
 .row [.int 1, (.bool true)]) (
 .row [])) (
 cond (20 < (len v5 : Int)) (
 cond ((sl (Lz) 0).toInt = 1) (
 .row [.int 1, (.bool true)]) (
 .row [])) (
 cond (5 < (len v4 : Int)) (
 cond ((sl (Lz) 0).toInt = 1) (
 .row [.int 1, (.bool true)]) (
 .row [])) (
 cond (40 < v0) (
 cond ((sl (Lz) 0).toInt = 1) (
 .row [.int 1, (.bool true)]) (
 .row [])) (
 cond ((sl (Ii v2 v3 v4 v5) 0).toInt = 1) (
 cond ((sl (QV v2 v3 v4 v5) 0).toInt = 1) (
 cond ((sl (QV v2 v3 v4 v5) 2).toInt = 0) (
 cond ((sl (Ii v2 v3 v4 v5) 5).toInt = 0) (
 cond ((len (sl (Ii v2 v3 v4 v5) 1) : Int) = (len v3 : Int)) (
 cond ((len (sl (Ii v2 v3 v4 v5) 3) : Int) = (len v4 : Int)) (
 IJ (.int 0) v2 v3 v4 v5 (sl (Ii v2 v3 v4 v5) 1) (sl (Ii v2 v3 v4 v5) 2) (sl (Ii v2 v3 v4 v5) 3) (sl (Ii v2 v3 v4 v5) 4)) (
 .row [.int 1, (.bool false)])) (
 .row [.int 1, (.bool false)])) (
 .row [.int 1, (.bool false)])) (
 cond ((len (sl (Ii v2 v3 v4 v5) 1) : Int) = 0) (
 cond ((len (sl (Ii v2 v3 v4 v5) 3) : Int) = 0) (
 cond ((sl (Ii v2 v3 v4 v5) 5).toInt = 2) (
 cond ((sl (Lz) 0).toInt = 1) (
 .row [.int 1, (.bool true)]) (
 .row [])) (
 .row [.int 1, (.bool false)])) (
 .row [.int 1, (.bool false)])) (
 .row [.int 1, (.bool false)]))) (
 .row [])) (
 .row [])))))) := gw rfl rfl (cL rfl (cL (cQ rfl rfl) (cL (cQ rfl rfl) (cL (cQ rfl rfl) (cL (cQ rfl rfl) (cQ (cQ (cQ (cQ (cQ (cQ rfl rfl) rfl) rfl) (cQ (cQ (cQ (cQ rfl rfl) rfl) rfl) rfl)) rfl) rfl))))))
theorem XB (v0 : Int) (v1 v2 v3 v4 v5 : D) (v6 : Bool) (v7 : D) (v8 : Bool) : IJ (.int v0) v1 v2 v3 v4 v5 (.bool v6) v7 (.bool v8) =
  cond (v0 < len v2) (
 cond (v0 < 0) (
 .row []) (
 cond (v0 < len v5) (
 cond ((D.strEq (cl v5 v0 0) (cl v2 v0 0) && D.strEq (cl v5 v0 1) (cl v2 v0 0))) (
 IJ (.int (IntKind.wrap .i64 (v0 + 1))) v1 v2 v3 v4 v5 (.bool v6) v7 (.bool v8)) (
 .row [.int 1, (.bool false)])) (
 .row []))) (
 IqQ (.int 0) v1 v2 v3 v4 v5 (.bool v6) v7 (.bool v8)) := gw rfl rfl rfl
theorem XO (v0 : Int) (v1 v2 v3 v4 v5 : D) (v6 : Bool) (v7 : D) (v8 : Bool) : IqQ (.int v0) v1 v2 v3 v4 v5 (.bool v6) v7 (.bool v8) =
  cond (v0 < len v3) (
 cond (v0 < 0) (
 .row []) (
 cond (v0 < len v7) (
 cond ((D.strEq (cl v7 v0 0) (cl v3 v0 0) && (D.strEq (cl v7 v0 1) (cl v3 v0 0) && decide ((cl v7 v0 2).toInt = 0)))) (
 IqQ (.int (IntKind.wrap .i64 (v0 + 1))) v1 v2 v3 v4 v5 (.bool v6) v7 (.bool v8)) (
 .row [.int 1, (.bool false)])) (
 .row []))) (
 Fh (.int 0) v1 v2 v3 v4 v5 (.bool v6) v7 (.bool v8)) := gw rfl rfl (cL (cL rfl (cL (cg (aE rfl (aE rfl (qE rfl rfl))) rfl rfl) rfl)) rfl)
theorem Xo (v0 : Int) (v1 v2 v3 v4 v5 : D) (v6 : Bool) (v7 : D) (v8 : Bool) : Fh (.int v0) v1 v2 v3 v4 v5 (.bool v6) v7 (.bool v8) =
  cond (v0 < len v4) (
 Fl (.int v0) (.int 0) v1 v2 v3 v4 v5 (.bool v6) v7 (.bool v8)) (
 cond ((sl (Jc v1 v2 v3 v4 v1 v2 v3 v4 v5 (.bool v6) v7 (.bool v8)) 0).toInt = 1) (
 cond ((sl (Jc v1 v2 v3 v4 v1 v2 v3 v4 v5 (.bool v6) v7 (.bool v8)) 10).toInt = 0) (
 cond ((sl (Jc v1 v2 v3 v4 v1 v2 v3 v4 v5 (.bool v6) v7 (.bool v8)) 9).toBool) (
 cond ((sl (Lz) 0).toInt = 1) (
 .row [.int 1, (.bool true)]) (
 .row [])) (
 .row [.int 1, (.bool false)])) (
 cond ((sl (Jc v1 v2 v3 v4 v1 v2 v3 v4 v5 (.bool v6) v7 (.bool v8)) 10).toInt = 7) (
 cond ((sl (Lz) 0).toInt = 1) (
 .row [.int 1, (.bool true)]) (
 .row [])) (
 .row [.int 1, (.bool false)]))) (
 .row [])) := gw rfl rfl (cL rfl (cQ (cQ (cg rfl (cQ rfl rfl) rfl) (cQ (cQ rfl rfl) rfl)) rfl))
theorem Xf (v0 v1 : Int) (v2 v3 v4 v5 v6 : D) (v7 : Bool) (v8 : D) (v9 : Bool) : Fl (.int v0) (.int v1) v2 v3 v4 v5 v6 (.bool v7) v8 (.bool v9) =
  cond (v1 < v0) (
 cond (v0 < 0) (
 .row []) (
 cond (v0 < len v5) (
 cond (v1 < 0) (
 .row []) (
 cond (v1 < len v5) (
 cond (D.strEq (cl v5 v0 0) (cl v5 v1 0)) (
 cond ((cl v5 v0 2).toInt = (cl v5 v1 2).toInt) (
 cond (D.strEq (cl v5 v0 3) (cl v5 v1 3)) (
 cond (D.strEq (cl v5 v0 4) (cl v5 v1 4)) (
 cond ((sl (Lz) 0).toInt = 1) (
 .row [.int 1, (.bool true)]) (
 .row [])) (
 Fl (.int v0) (.int (IntKind.wrap .i64 (v1 + 1))) v2 v3 v4 v5 v6 (.bool v7) v8 (.bool v9))) (
 Fl (.int v0) (.int (IntKind.wrap .i64 (v1 + 1))) v2 v3 v4 v5 v6 (.bool v7) v8 (.bool v9))) (
 Fl (.int v0) (.int (IntKind.wrap .i64 (v1 + 1))) v2 v3 v4 v5 v6 (.bool v7) v8 (.bool v9))) (
 Fl (.int v0) (.int (IntKind.wrap .i64 (v1 + 1))) v2 v3 v4 v5 v6 (.bool v7) v8 (.bool v9))) (
 .row []))) (
 .row []))) (
 Fh (.int (IntKind.wrap .i64 (v0 + 1))) v2 v3 v4 v5 v6 (.bool v7) v8 (.bool v9)) := gw rfl rfl (cL (cL rfl (cL (cL rfl (cL (cg rfl (cQ (cg rfl (cg rfl (cQ rfl rfl) rfl) rfl) rfl) rfl) rfl)) rfl)) rfl)
end
end Ci
namespace Ci
open Go Go.AE
theorem Mm (v : D) (i : Int) : 0 ≤ sAt v i ∧ sAt v i < 256 := by
 unfold sAt;have := ((v.toStr.data.toList[i.toNat]?).getD 0).toNat_lt;omega
theorem J2 {v : D} : len (OW v) = B9 v := by
 show (List.map _ _).length = _;simp [B9]
theorem Rj {v : D} {i : Nat} (h : i < B9 v) : (cl (OW v) i 0).toInt = sAt v i := by
 unfold cl sAt OW;have h' : i < v.toStr.data.toList.length := h;simp [D.rows, List.getD_eq_getElem?_getD, List.getElem?_eq_getElem h', D.cells, D.toInt]
theorem Q9 {x : Int} (h0 : 0 ≤ x) (h1 : x < 256) : IntKind.wrap .u8 x = x := by
 simp only [IntKind.wrap, IntKind.bits, IntKind.signed];have := Int.emod_eq_of_lt h0 h1
 simp_all
section
variable [Ap]
theorem LT {v : D} (hs : B9 v ≤ 32) : ∀ (k i : Nat), i + k = B9 v → 1 ≤ i → ∃ b, PS (OW v) (.int (B9 v : Nat)) (.int i) = .row [.int 1, .bool b] ∧ NJ v (.int i) = .row [.int 1, .bool b]
 | 0, i, hi, h1 => by
  refine ⟨true, ?_, ?_⟩
  ·rw [Zy, ifF (by omega)]
  ·rw [YK, ifF (by omega)]
 | k + 1, i, hi, h1 => by
  obtain ⟨b, q1, q2⟩ := LT hs k (i + 1) (by omega) (by omega)
  have hr := Mm v i;have hc := Rj (v := v) (i := i) (by omega)
  have A := Zy (OW v) (B9 v : Nat) (i : Int);have B := YK v (i : Int);rw [hc, Q9 hr.1 hr.2, J2, BD (by omega) (by omega), show (i : Int) + 1 = ((i + 1 : Nat) : Int) by omega, q1, ifT (by omega), ifF (by omega), ifT (by omega)] at A
  rw [BD (by omega) (by omega), show (i : Int) + 1 = ((i + 1 : Nat) : Int) by omega, q2, ifT (by omega), ifF (by omega)] at B
  rw [A, B];have hi0 : decide ((i : Int) = 0) = false := decide_eq_false (by omega)
  rw [hi0];simp only [cond_false];generalize sAt v i = c;by_cases c1 : c < 97
  ·simp only [ifT c1];by_cases c2 : c < 65
   ·simp only [ifT c2];by_cases c3 : c < 48
    ·simp only [ifT c3]; exact ⟨_, rfl, rfl⟩
    ·simp only [ifF c3];by_cases c4 : 57 < c
     ·simp only [ifT c4]; exact ⟨_, rfl, rfl⟩
     ·simp only [ifF c4]; exact ⟨_, rfl, rfl⟩
   ·simp only [ifF c2];by_cases c3 : 90 < c
    ·simp only [ifT c3];by_cases c4 : c = 95
     ·simp only [ifT c4]; exact ⟨_, rfl, rfl⟩
     ·simp only [ifF c4]; exact ⟨_, rfl, rfl⟩
    ·simp only [ifF c3]; exact ⟨_, rfl, rfl⟩
  ·simp only [ifF c1];by_cases c2 : 122 < c
   ·simp only [ifT c2]; exact ⟨_, by cases decide ((i : Int) = 0) <;> rfl, rfl⟩
   ·simp only [ifF c2]; exact ⟨_, rfl, rfl⟩
theorem Rf (v : D) : ∃ b, Eh v = .row [.int 1, .bool b] ∧ Fq v = .row [.int 1, .bool b] := by
 rw [iW, ZL];by_cases c1 : (B9 v : Int) < 1
 ·simp only [ifT c1]; exact ⟨_, rfl, rfl⟩
 simp only [ifF c1];by_cases c2 : 32 < (B9 v : Int)
 ·simp only [ifT c2]; exact ⟨_, rfl, rfl⟩
 simp only [ifF c2];obtain ⟨b, q1, q2⟩ := LT (v := v) (by omega) (B9 v - 1) 1 (by omega) (Nat.le_refl _)
 have hr := Mm v (0 : Nat);have hc := Rj (v := v) (i := 0) (by omega)
 have A := Zy (OW v) (B9 v : Nat) ((0 : Nat) : Int);have B := YK v ((0 : Nat) : Int);rw [hc, Q9 hr.1 hr.2, J2, BD (by omega) (by omega), show ((0 : Nat) : Int) + 1 = ((1 : Nat) : Int) by omega, q1, ifT (by omega), ifF (by omega), ifT (by omega)] at A
 rw [BD (by omega) (by omega), show ((0 : Nat) : Int) + 1 = ((1 : Nat) : Int) by omega, q2, ifT (by omega), ifF (by omega)] at B
 have z : ((0 : Nat) : Int) = 0 := rfl;rw [z] at A B hr;rw [J2, A, B];generalize sAt v 0 = c;have hi0 : decide ((0 : Int) = 0) = true := rfl;rw [hi0];simp only [cond_true];by_cases c3 : c = 95
 ·subst c3;exact ⟨false, rfl, rfl⟩
 simp only [ifF c3];by_cases c4 : c < 97
 ·simp only [ifT c4];by_cases c5 : c < 65
  ·simp only [ifT c5];by_cases c6 : c < 48
   ·simp only [ifT c6]; exact ⟨_, rfl, rfl⟩
   ·simp only [ifF c6];by_cases c7 : 57 < c
    ·simp only [ifT c7]; exact ⟨_, rfl, rfl⟩
    ·simp only [ifF c7]; exact ⟨_, rfl, rfl⟩
  ·have c6 : ¬ c < 48 := by omega
   have c7 : 57 < c := by omega
   simp only [ifF c5, ifF c6, ifT c7];by_cases c8 : 90 < c
   ·simp only [ifT c8]; exact ⟨_, rfl, rfl⟩
   ·simp only [ifF c8]; exact ⟨_, rfl, rfl⟩
 ·have c6 : ¬ c < 48 := by omega
  have c7 : 57 < c := by omega
  simp only [ifF c4, ifF c6, ifT c7];by_cases c5 : 122 < c
  ·simp only [ifT c5]; exact ⟨_, rfl, rfl⟩
  ·simp only [ifF c5]; exact ⟨_, rfl, rfl⟩
end
end Ci
namespace Ci
open Go Go.AE
def fd (l key : D) : Int := fdG (fun j => D.strEq (cl l j 0) key) (len l) 0
theorem C2 {l key : D} : fd l key < len l := by
 have := E9 (p := fun j => D.strEq (cl l j 0) key) (k := len l) (i := 0)
 unfold fd; omega
theorem XL {l key : D} : fd l key = -1 ∨ 0 ≤ fd l key := by
 have := KR (p := fun j => D.strEq (cl l j 0) key) (k := len l) (i := 0)
 unfold fd; omega
theorem Gk {l : D} {i : Nat} (h : i < len l) : 0 ≤ fd l (cl l i 0) ∧ fd l (cl l i 0) ≤ i := Iz (p := fun j => D.strEq (cl l j 0) (cl l i 0)) (Nat.zero_le _) (by omega) Bh
theorem cW {l key : D} (h : 0 ≤ fd l key) : D.strEq (cl l (fd l key) 0) key = true := by
 have := M2 (p := fun j => D.strEq (cl l j 0) key) (k := len l) (i := 0) h
 have e : ((fd l key).toNat : Int) = fd l key := by omega
 rw [← e];exact this
theorem De {F : Int → D} {l key : D} (hn : len l < 4611686018427387904) (h : ∀ i : Int, F i = cond (decide (i < (len l : Int))) (cond (decide (i < 0)) (.row []) (cond (D.strEq (cl l i 0) key) (.row [.int 1, .int i]) (F (IntKind.wrap .i64 (i + 1))))) (.row [.int 1, .int (-1)])) : F 0 = .row [.int 1, .int (fd l key)] := by
 refine find (F := fun i => F (i : Int)) (n := len l) (bad := fun j => D.strEq (cl l j 0) key) (fun j hj => ?_) ?_
 ·show F (j : Int) = _;rw [h, ifT (by omega), ifF (by omega), AZ (by omega)]
 ·show F (len l : Int) = _;rw [h, ifF (by omega)]
section
variable [Ap]
variable {v0 v1 v2 v3 v4 v5 : D}
variable {p8 p9 : Bool}
theorem XY (hn : len v0 < 4611686018427387904) (k : D) : Th v0 k = .row [.int 1, .int (fd v0 k)] := (ja ..).trans (De (F := fun i => WX v0 (.int i) k) hn fun i => iy ..)
theorem Xw (hn : len v0 < 4611686018427387904) (k : D) : In v0 k = .row [.int 1, .int (fd v0 k)] := (iM ..).trans (De (F := fun i => VI v0 (.int i) k) hn fun i => iU ..)
theorem Nt (hn : len v0 < 4611686018427387904) (k : D) : Do v0 k = .row [.int 1, .int (fd v0 k)] := (aG ..).trans (De (F := fun i => Ry v0 (.int i) k) hn fun i => aL ..)
theorem MN (hn : len v0 < 4611686018427387904) (k : D) : ED v0 k = .row [.int 1, .int (fd v0 k)] := (ci ..).trans (De (F := fun i => RE v0 (.int i) k) hn fun i => cD ..)
theorem TC (hn : len v2 < 4611686018427387904) (k : D) : HI v0 v1 v2 v3 k = .row [.int 1, .int (fd v2 k)] := (aK ..).trans (De (F := fun i => Rw k (.int i) v0 v1 v2 v3) hn fun i => ZY ..)
theorem Vp (hn : len v1 < 4611686018427387904) (k : D) : GH v0 v1 v2 v3 k = .row [.int 1, .int (fd v1 k)] := (ZR ..).trans (De (F := fun i => QR k (.int i) v0 v1 v2 v3) hn fun i => dE ..)
def nm (v : D) : Bool := (sl (Fq v) 1).toBool
theorem OF (v : D) : Eh v = .row [.int 1, .bool (nm v)] := by
 obtain ⟨b, q1, q2⟩ := Rf v;rw [q1];unfold nm;rw [q2];rfl
theorem QI (v : D) : Fq v = .row [.int 1, .bool (nm v)] := by
 obtain ⟨b, q1, q2⟩ := Rf v;unfold nm;rw [q2];rfl
def Hy (v2 : D) (i : Nat) : Bool := !nm (cl v2 i 0) || decide (fd v2 (cl v2 i 0) < i) || decide ((cl v2 i 1).toInt < 1) || decide (1000 < (cl v2 i 1).toInt)
def Hx (v1 : D) (i : Nat) : Bool := !nm (cl v1 i 0) || decide (fd v1 (cl v1 i 0) < i) || decide ((cl v1 i 2).toInt < 0) || decide (1048576 < (cl v1 i 2).toInt)
theorem Ue (hn : len v2 < 1000) (v0 v1 v3 : D) : NH (.int (len v2 : Nat)) (.int 0) (.int 4) v0 v1 v2 v3 = .row [.int 1, .int (cond (decide (4 < (len v2 : Int))) 4 (fdG (Hy v2) (len v2) 0))] := by
 rw [io, ifF (by omega)]
 by_cases c : 4 < (len v2 : Int)
 ·rw [ifT c, ifT c]
 rw [ifF c, ifF c];refine find (F := fun i => SL (.int (len v2 : Nat)) (.int (i : Nat)) v0 v1 v2 v3) (n := len v2) (bad := Hy v2) (fun j hj => ?_) ?_
 ·show SL _ (.int (j : Nat)) _ _ _ _ = _;rw [ZW, ifT (by omega), ifF (by omega), ifT (by omega)]
  simp only [OF, XY (v0 := v2) (by omega), As, Au, Ah, Ai, decide_true, cond_true, AZ (i := j) (by omega)]
  unfold Hy;cases nm (cl v2 j 0) <;> cases decide (fd v2 (cl v2 j 0) < j) <;> cases decide ((cl v2 j 1).toInt < 1) <;> cases decide (1000 < (cl v2 j 1).toInt) <;> rfl
 ·show SL _ (.int (len v2 : Nat)) _ _ _ _ = _;rw [ZW, ifF (by omega)]
theorem Uy (hn : len v1 < 1000) (v0 v2 v3 : D) : OR (.int (len v1 : Nat)) (.int 1) (.int 24) v0 v1 v2 v3 = .row [.int 1, .int (cond (decide ((len v1 : Int) < 1)) 0 (cond (decide (24 < (len v1 : Int))) 24 (fdG (Hx v1) (len v1) 0)))] := by
 rw [iS];by_cases c : (len v1 : Int) < 1
 ·rw [ifT c, ifT c]
 rw [ifF c, ifF c];by_cases c : 24 < (len v1 : Int)
 ·rw [ifT c, ifT c]
 rw [ifF c, ifF c];refine find (F := fun i => SG (.int (len v1 : Nat)) (.int (i : Nat)) v0 v1 v2 v3) (n := len v1) (bad := Hx v1) (fun j hj => ?_) ?_
 ·show SG _ (.int (j : Nat)) _ _ _ _ = _;rw [cU, ifT (by omega), ifF (by omega), ifT (by omega)]
  simp only [OF, Xw (v0 := v1) (by omega), As, Au, Ah, Ai, decide_true, cond_true, AZ (i := j) (by omega)]
  unfold Hx;cases nm (cl v1 j 0) <;> cases decide (fd v1 (cl v1 j 0) < j) <;> cases decide ((cl v1 j 2).toInt < 0) <;> cases decide (1048576 < (cl v1 j 2).toInt) <;> rfl
 ·show SG _ (.int (len v1 : Nat)) _ _ _ _ = _;rw [cU, ifF (by omega)]
end
end Ci
namespace Ci
open Go Go.AE
def Dz (v3 : D) (i j : Nat) : Bool := D.strEq (cl v3 j 0) (cl v3 i 0) && (D.strEq (cl v3 j 1) (cl v3 i 1) && (decide ((cl v3 j 2).toInt = (cl v3 i 2).toInt) && (D.strEq (cl v3 j 3) (cl v3 i 3) && (D.strEq (cl v3 j 4) (cl v3 i 4) && (D.strEq (cl v3 j 5) (cl v3 i 5) && (decide ((cl v3 j 6).toInt = (cl v3 i 6).toInt) && (decide ((cl v3 j 7).toInt = (cl v3 i 7).toInt) && decide ((cl v3 j 8).toInt = (cl v3 i 8).toInt))))))))
def dup (v3 : D) (i : Nat) : Bool := !decide (fdG (Dz v3 i) i 0 < 0)
def Ws (v2 v3 : D) (i : Nat) : Bool := cond (eqC (cl v3 i 5) 0 0) (cond (decide ((cl v3 i 6).toInt = 0)) (cond (decide ((cl v3 i 7).toInt = 0)) (cond (decide ((cl v3 i 8).toInt = 0)) false true) true) true)
 (cond (decide (fd v2 (cl v3 i 5) < 0)) true (cond (decide ((cl v3 i 6).toInt < 0)) true (cond (decide ((cl v3 i 7).toInt < (cl v3 i 6).toInt)) true (cond (decide ((cl v3 i 8).toInt < (-1000))) true (cond (decide (1000 < (cl v3 i 8).toInt)) true
  (cond (decide ((cl v2 (fd v2 (cl v3 i 5)) 1).toInt < (cl v3 i 7).toInt)) true (cond (decide (IntKind.wrap .i64 ((cl v3 i 6).toInt + (cl v3 i 8).toInt) < 0)) true (cond (decide ((cl v2 (fd v2 (cl v3 i 5)) 1).toInt < IntKind.wrap .i64 ((cl v3 i 7).toInt + (cl v3 i 8).toInt))) true false))))))))
def Cg (v3 : D) : Prop := ∀ i : Nat, i < len v3 → (∃ n, cl v3 i 2 = .int n) ∧ (∃ n, cl v3 i 6 = .int n) ∧ (∃ n, cl v3 i 7 = .int n) ∧ (∃ n, cl v3 i 8 = .int n) ∧ B9 (cl v3 i 3) < 4611686018427387904 ∧ B9 (cl v3 i 4) < 4611686018427387904
section
variable [Ap]
def PH (v0 v1 v3 : D) (i : Nat) : Bool := cond (decide ((cl v3 i 2).toInt = 1)) (cond (nm (cl v3 i 3)) (cond (nm (cl v3 i 4)) (D.strEq (cl v3 i 4) v0) true) true)
 (cond (decide ((cl v3 i 2).toInt = 2)) (cond (nm (cl v3 i 3)) (cond (nm (cl v3 i 4)) (D.strEq (cl v3 i 4) v0) true) true)
 (cond (decide ((cl v3 i 2).toInt = 3)) (cond (eqC (cl v3 i 3) 0 0) (cond (eqC (cl v3 i 4) 0 0) (!decide (0 < (cl v1 (fd v1 (cl v3 i 0)) 2).toInt)) true) true)
 (cond (decide ((cl v3 i 2).toInt = 4)) (cond (eqC (cl v3 i 3) 0 0) (cond (eqC (cl v3 i 4) 0 0) false true) true) true)))
def Ff (v0 v1 v2 v3 : D) (i : Nat) : Bool := decide (fd v1 (cl v3 i 0) < 0) || (decide (fd v1 (cl v3 i 1) < 0) || (dup v3 i || (PH v0 v1 v3 i || Ws v2 v3 i)))
variable {v0 v1 v2 v3 : D}
variable {p8 p9 : Bool}
theorem gt (hs : Cg v3) (hn : len v3 < 1000) {i : Nat} (hi : i < len v3) : ∃ n : Int, Ze (sb v3 0 i) (cl v3 i 0) (cl v3 i 1) (cl v3 i 2) (cl v3 i 3) (cl v3 i 4) (cl v3 i 5) (cl v3 i 6) (cl v3 i 7) (cl v3 i 8) = .row [.int 1, .int n] ∧ decide (n < 0) = !dup v3 i := by
 obtain ⟨⟨n2, h2⟩, ⟨n6, h6⟩, ⟨n7, h7⟩, ⟨n8, h8⟩, _⟩ := hs i hi;refine ⟨fdG (Dz v3 i) i 0, ?_, by unfold dup; rw [Bool.not_not]⟩
 have hl : len (sb v3 0 i) = i := by
  have := O1 (a := v3) (lo := 0) (hi := (i : Int)) (by omega) (by omega)
  omega
 rw [h2, h6, h7, h8, i7];refine find (F := fun j => SI (sb v3 0 i) (.int (j : Nat)) (cl v3 i 0) (cl v3 i 1) (.int n2) (cl v3 i 3) (cl v3 i 4) (cl v3 i 5) (.int n6) (.int n7) (.int n8)) (n := i) (bad := Dz v3 i) (fun j hj => ?_) ?_
 ·show SI (sb v3 0 i) (.int (j : Nat)) (cl v3 i 0) (cl v3 i 1) (.int n2) (cl v3 i 3) (cl v3 i 4) (cl v3 i 5) (.int n6) (.int n7) (.int n8) = _;rw [ZP, hl, ifT (by omega), ifF (by omega), AZ (by omega)]
  simp only [TQ (a := v3) (i := i) (j := j) (by omega) hj]
  have e : (D.strEq (cl v3 i 0) (cl v3 j 0) && (D.strEq (cl v3 i 1) (cl v3 j 1) && (decide (n2 = (cl v3 j 2).toInt) && (D.strEq (cl v3 i 3) (cl v3 j 3) && (D.strEq (cl v3 i 4) (cl v3 j 4) && (D.strEq (cl v3 i 5) (cl v3 j 5) && (decide (n6 = (cl v3 j 6).toInt) && (decide (n7 = (cl v3 j 7).toInt) && decide (n8 = (cl v3 j 8).toInt))))))))) = Dz v3 i j := by
   unfold Dz;rw [h2, h6, h7, h8];simp only [Ah];rw [AN (a := cl v3 i 0), AN (a := cl v3 i 1), AN (a := cl v3 i 3), AN (a := cl v3 i 4), AN (a := cl v3 i 5)];rw [NS (x := n2), NS (x := n6), NS (x := n7), NS (x := n8)];rfl
  rw [e]
 ·show SI (sb v3 0 i) (.int (i : Nat)) (cl v3 i 0) (cl v3 i 1) (.int n2) (cl v3 i 3) (cl v3 i 4) (cl v3 i 5) (.int n6) (.int n7) (.int n8) = _;rw [ZP, hl, ifF (by omega)]
theorem VJ (hs : Cg v3) (hn : len v3 < 1000) (hn1 : len v1 < 1000) (hn2 : len v2 < 1000) {i : Nat} (hi : i < len v3) : G9 (.int (len v3 : Nat)) (.int (i : Nat)) v0 v1 v2 v3 = cond (Ff v0 v1 v2 v3 i) (.row [.int 1, .int (i : Nat)]) (G9 (.int (len v3 : Nat)) (.int (i + 1 : Nat)) v0 v1 v2 v3) := by
 obtain ⟨n, h6, hd⟩ := gt hs hn hi;obtain ⟨_, _, _, _, h3, h4⟩ := hs i hi;rw [dP (h0 := rfl) (h1 := rfl) (h2 := rfl), ifT (by omega), ifF (by omega), ifT (by omega)]
 have a1 := C2 (l := v1) (key := cl v3 i 0);have a2 := C2 (l := v2) (key := cl v3 i 5);have d1 : decide ((B9 (cl v3 i 3) : Int) < 4611686018427387904) = true := decide_eq_true (by omega)
 have d2 : decide ((B9 (cl v3 i 4) : Int) < 4611686018427387904) = true := decide_eq_true (by omega)
 have d3 : decide ((len v3 : Int) < i) = false := decide_eq_false (by omega)
 simp only [h6, hd, OF, XY (v0 := v2) (by omega), Xw (v0 := v1) (by omega), As, Au, Ah, Ai, decide_true, cond_true, cond_false, AZ (i := i) (by omega), decide_eq_true a1, decide_eq_true a2, d1, d2, d3, PQ]
 unfold Ff PH;generalize G9 (.int (len v3 : Nat)) (.int (i + 1 : Nat)) v0 v1 v2 v3 = X;generalize hY : (D.row [.int 1, .int (i : Nat)]) = Y;cases decide (fd v1 (cl v3 i 0) < 0) <;> cases decide (fd v1 (cl v3 i 1) < 0) <;> cases dup v3 i <;> simp only [cond_true, cond_false, Bool.true_or, Bool.false_or, Bool.not_true, Bool.not_false, Bool.cond_self]
 unfold Ws;by_cases k1 : (cl v3 i 2).toInt = 1
 ·simp only [ifT k1];cases nm (cl v3 i 3) <;> cases nm (cl v3 i 4) <;> cases D.strEq (cl v3 i 4) v0 <;> simp only [cond_true, cond_false, Bool.true_or, Bool.false_or]
  repeat' (refine Ll (fun h => ?_) (fun h => ?_)) <;> simp only [*, cond_true, cond_false]
 simp only [ifF k1];by_cases k2 : (cl v3 i 2).toInt = 2
 ·simp only [ifT k2];cases nm (cl v3 i 3) <;> cases nm (cl v3 i 4) <;> cases D.strEq (cl v3 i 4) v0 <;> simp only [cond_true, cond_false, Bool.true_or, Bool.false_or]
  repeat' (refine Ll (fun h => ?_) (fun h => ?_)) <;> simp only [*, cond_true, cond_false]
 simp only [ifF k2];by_cases k3 : (cl v3 i 2).toInt = 3
 ·simp only [ifT k3];cases eqC (cl v3 i 3) 0 0 <;> cases eqC (cl v3 i 4) 0 0 <;> cases decide (0 < (cl v1 (fd v1 (cl v3 i 0)) 2).toInt) <;> simp only [cond_true, cond_false, Bool.true_or, Bool.false_or, Bool.and_true, Bool.true_and, Bool.and_false, Bool.false_and, Bool.not_true, Bool.not_false]
  repeat' (refine Ll (fun h => ?_) (fun h => ?_)) <;> simp only [*, cond_true, cond_false]
 simp only [ifF k3];by_cases k4 : (cl v3 i 2).toInt = 4
 ·simp only [ifT k4];cases eqC (cl v3 i 3) 0 0 <;> cases eqC (cl v3 i 4) 0 0 <;> simp only [cond_true, cond_false, Bool.true_or, Bool.false_or, Bool.and_true, Bool.true_and, Bool.and_false, Bool.false_and, Bool.not_true, Bool.not_false]
  repeat' (refine Ll (fun h => ?_) (fun h => ?_)) <;> simp only [*, cond_true, cond_false]
 simp only [ifF k4, cond_true, Bool.true_or]
theorem Vq (hs : Cg v3) (hn : len v3 < 1000) (hn1 : len v1 < 1000) (hn2 : len v2 < 1000) (v0 : D) : Ol (.int (len v3 : Nat)) (.int 0) (.int 80) v0 v1 v2 v3 = .row [.int 1, .int (cond (decide (80 < (len v3 : Int))) 80 (fdG (Ff v0 v1 v2 v3) (len v3) 0))] := by
 rw [iC, ifF (by omega)]
 by_cases c : 80 < (len v3 : Int)
 ·rw [ifT c, ifT c]
 rw [ifF c, ifF c];refine find (F := fun i => G9 (.int (len v3 : Nat)) (.int (i : Nat)) v0 v1 v2 v3) (n := len v3) (bad := Ff v0 v1 v2 v3) (fun j hj => VJ hs hn hn1 hn2 hj) ?_
 show G9 _ (.int (len v3 : Nat)) _ _ _ _ = _;rw [dP (h0 := rfl) (h1 := rfl) (h2 := rfl), ifF (by omega)]
theorem Uw (hs : Cg v3) (hn : len v3 < 1000) (hn1 : len v1 < 1000) (hn2 : len v2 < 1000) {i : Nat} (hi : i < len v3) (hf : 0 ≤ fd v1 (cl v3 i 0)) : Fp (.int (i : Nat)) (.int (fd v1 (cl v3 i 0))) (.int 0) v0 v1 v2 v3 (cl v3 i 0) (cl v3 i 1) (cl v3 i 2) (cl v3 i 3) (cl v3 i 4) (cl v3 i 5) (cl v3 i 6) (cl v3 i 7) (cl v3 i 8) = .row [.int 1, .bool (!(dup v3 i || PH v0 v1 v3 i))] := by
 obtain ⟨⟨n2, h2⟩, ⟨n6, h6⟩, ⟨n7, h7⟩, ⟨n8, h8⟩, h3, h4⟩ := hs i hi
 have L := Ek (F := fun j => Fp (.int (i : Nat)) (.int (fd v1 (cl v3 i 0))) (.int (j : Nat)) v0 v1 v2 v3 (cl v3 i 0) (cl v3 i 1) (cl v3 i 2) (cl v3 i 3) (cl v3 i 4) (cl v3 i 5) (cl v3 i 6) (cl v3 i 7) (cl v3 i 8)) (n := i) (bad := Dz v3 i) (B := fun _ => .row [.int 1, .bool false]) (fun j hj => by
  show Fp (.int (i : Nat)) (.int (fd v1 (cl v3 i 0))) (.int (j : Nat)) v0 v1 v2 v3 (cl v3 i 0) (cl v3 i 1) (cl v3 i 2) (cl v3 i 3) (cl v3 i 4) (cl v3 i 5) (cl v3 i 6) (cl v3 i 7) (cl v3 i 8) = cond _ _ (Fp (.int (i : Nat)) (.int (fd v1 (cl v3 i 0))) (.int (j + 1 : Nat)) v0 v1 v2 v3 (cl v3 i 0) (cl v3 i 1) (cl v3 i 2) (cl v3 i 3) (cl v3 i 4) (cl v3 i 5) (cl v3 i 6) (cl v3 i 7) (cl v3 i 8))
  have e : (D.strEq (cl v3 j 0) (cl v3 i 0) && (D.strEq (cl v3 j 1) (cl v3 i 1) && (decide ((cl v3 j 2).toInt = n2) && (D.strEq (cl v3 j 3) (cl v3 i 3) && (D.strEq (cl v3 j 4) (cl v3 i 4) && (D.strEq (cl v3 j 5) (cl v3 i 5) && (decide ((cl v3 j 6).toInt = n6) && (decide ((cl v3 j 7).toInt = n7) && decide ((cl v3 j 8).toInt = n8))))))))) = Dz v3 i j := by
   unfold Dz;rw [h2, h6, h7, h8];rfl
  rw [← e, h2, h6, h7, h8, Xe, ifT (by omega), ifF (by omega), ifT (by omega), AZ (by omega)])
 have L : Fp (.int (i : Nat)) (.int (fd v1 (cl v3 i 0))) (.int 0) v0 v1 v2 v3 (cl v3 i 0) (cl v3 i 1) (cl v3 i 2) (cl v3 i 3) (cl v3 i 4) (cl v3 i 5) (cl v3 i 6) (cl v3 i 7) (cl v3 i 8) = cond (decide (fdG (Dz v3 i) i 0 < 0)) (Fp (.int (i : Nat)) (.int (fd v1 (cl v3 i 0))) (.int (i : Nat)) v0 v1 v2 v3 (cl v3 i 0) (cl v3 i 1) (cl v3 i 2) (cl v3 i 3) (cl v3 i 4) (cl v3 i 5) (cl v3 i 6) (cl v3 i 7) (cl v3 i 8)) (.row [.int 1, .bool false]) := L;rw [L];have e : decide (fdG (Dz v3 i) i 0 < 0) = !dup v3 i := by unfold dup; rw [Bool.not_not]
 rw [e];cases dup v3 i
 ·show Fp (.int (i : Nat)) (.int (fd v1 (cl v3 i 0))) (.int (i : Nat)) v0 v1 v2 v3 (cl v3 i 0) (cl v3 i 1) (cl v3 i 2) (cl v3 i 3) (cl v3 i 4) (cl v3 i 5) (cl v3 i 6) (cl v3 i 7) (cl v3 i 8) = .row [.int 1, .bool (!PH v0 v1 v3 i)];have a1 := C2 (l := v1) (key := cl v3 i 0);have t2 : (cl v3 i 2).toInt = n2 := by rw [h2]; rfl
  have R : Fp (.int (i : Nat)) (.int (fd v1 (cl v3 i 0))) (.int (i : Nat)) v0 v1 v2 v3 (cl v3 i 0) (cl v3 i 1) (.int n2) (cl v3 i 3) (cl v3 i 4) (cl v3 i 5) (.int n6) (.int n7) (.int n8) = .row [.int 1, .bool (!PH v0 v1 v3 i)] := by
   rw [Xe, ifF (by omega)]
   simp only [QI, As, Au, Ah, Ai, decide_true, cond_true, decide_eq_true a1, decide_eq_false (show ¬ fd v1 (cl v3 i 0) < 0 by omega), cond_false]
   unfold PH;by_cases k1 : n2 = 1
   ·rw [ifT k1, ifT (t2.trans k1)];cases nm (cl v3 i 3) <;> cases nm (cl v3 i 4) <;> rfl
   rw [ifF k1, ifF (p := (cl v3 i 2).toInt = 1) (by omega)]
   by_cases k2 : n2 = 2
   ·rw [ifT k2, ifT (t2.trans k2)];cases nm (cl v3 i 3) <;> cases nm (cl v3 i 4) <;> rfl
   rw [ifF k2, ifF (p := (cl v3 i 2).toInt = 2) (by omega)]
   by_cases k3 : n2 = 3
   ·rw [ifT k3, ifT (t2.trans k3)];cases eqC (cl v3 i 3) 0 0 <;> cases eqC (cl v3 i 4) 0 0 <;> simp only [cond_true, cond_false, Bool.not_true, Bool.not_false, Bool.not_not]
   rw [ifF k3, ifF (p := (cl v3 i 2).toInt = 3) (by omega)]
   by_cases k4 : n2 = 4
   ·rw [ifT k4, ifT (t2.trans k4)];cases eqC (cl v3 i 3) 0 0 <;> cases eqC (cl v3 i 4) 0 0 <;> rfl
   rw [ifF k4, ifF (p := (cl v3 i 2).toInt = 4) (by omega)]
   rfl
  rw [h2, h6, h7, h8];exact R
 ·rfl
theorem ZD (hs : Cg v3) (hn : len v3 < 1000) (hn1 : len v1 < 1000) (hn2 : len v2 < 1000) {i : Nat} (hi : i < len v3) : QJ v0 v1 v2 v3 (.int (i : Nat)) = .row [.int 1, .bool (!Ff v0 v1 v2 v3 i)] := by
 rw [Z8, ifF (by omega), ifT (by omega)]
 have a1 := C2 (l := v1) (key := cl v3 i 0);have a2 := C2 (l := v2) (key := cl v3 i 5);simp only [TC (v0 := v0) (v1 := v1) (v2 := v2) (v3 := v3) (by omega), Vp (v0 := v0) (v1 := v1) (v2 := v2) (v3 := v3) (by omega), As, Au, Ah, Ai, decide_true, cond_true, decide_eq_true a2]
 unfold Ff;by_cases c : fd v1 (cl v3 i 0) < 0
 ·rw [ifT c, decide_eq_true c]; rfl
 rw [ifF c, decide_eq_false c, Uw hs hn hn1 hn2 hi (by omega)]
 unfold Ws;cases decide (fd v1 (cl v3 i 1) < 0) <;> cases dup v3 i <;> cases PH v0 v1 v3 i <;> simp only [cond_true, cond_false, Bool.true_or, Bool.false_or, Bool.not_true, Bool.not_false]
 all_goals (repeat' (refine Ll (fun h => ?_) (fun h => ?_))) <;> simp only [*, cond_true, cond_false, Bool.not_true, Bool.not_false, Bool.cond_self]
end
end Ci
namespace Ci
open Go Go.AE
section
variable [Ap]
variable {v0 v1 v2 v3 : D}
variable {p8 p9 : Bool}
def N0 (v2 : D) : Int := cond (decide (4 < (len v2 : Int))) 4 (fdG (Hy v2) (len v2) 0)
def Nk (v1 : D) : Int := cond (decide ((len v1 : Int) < 1)) 0 (cond (decide (24 < (len v1 : Int))) 24 (fdG (Hx v1) (len v1) 0))
def Qu (v0 v1 v2 v3 : D) : Int := cond (decide (80 < (len v3 : Int))) 80 (fdG (Ff v0 v1 v2 v3) (len v3) 0)
def rok (v0 v1 v2 v3 : D) : Bool := nm v0 && (decide (N0 v2 < 0) && (decide (Nk v1 < 0) && decide (Qu v0 v1 v2 v3 < 0)))
theorem i6 (hn : len v2 < 1000) : IZ (.int 0) v0 v1 v2 v3 = cond (decide (fdG (Hy v2) (len v2) 0 < 0)) (IZ (.int (len v2 : Nat)) v0 v1 v2 v3) (.row [.int 1, .int (fdG (Hy v2) (len v2) 0).toNat, .int 291]) :=
 Ek (F := fun j => IZ (.int (j : Nat)) v0 v1 v2 v3) (n := len v2) (bad := Hy v2) (B := fun j => .row [.int 1, .int (j : Nat), .int 291]) fun j hj => by
  show IZ (.int (j : Nat)) v0 v1 v2 v3 = cond _ _ (IZ (.int (j + 1 : Nat)) v0 v1 v2 v3);have a := Gk hj;rw [Xs, ifT (by omega), ifF (by omega), AZ (by omega)]
  simp only [QI, TC (v0 := v0) (v1 := v1) (v2 := v2) (v3 := v3) (by omega), As, Au, Ah, Ai, decide_true, cond_true]
  unfold Hy;by_cases q : fd v2 (cl v2 j 0) < j
  ·rw [ifF (by omega), decide_eq_true q]
   cases nm (cl v2 j 0) <;> rfl
  ·rw [ifT (by omega), decide_eq_false q]
   cases nm (cl v2 j 0) <;> cases decide ((cl v2 j 1).toInt < 1) <;> cases decide (1000 < (cl v2 j 1).toInt) <;> rfl
theorem jc (hn : len v1 < 1000) : IU (.int 0) v0 v1 v2 v3 = cond (decide (fdG (Hx v1) (len v1) 0 < 0)) (IU (.int (len v1 : Nat)) v0 v1 v2 v3) (.row [.int 1, .int (fdG (Hx v1) (len v1) 0).toNat, .int 292]) :=
 Ek (F := fun j => IU (.int (j : Nat)) v0 v1 v2 v3) (n := len v1) (bad := Hx v1) (B := fun j => .row [.int 1, .int (j : Nat), .int 292]) fun j hj => by
  show IU (.int (j : Nat)) v0 v1 v2 v3 = cond _ _ (IU (.int (j + 1 : Nat)) v0 v1 v2 v3);have a := Gk hj;rw [X1, ifT (by omega), ifF (by omega), AZ (by omega)]
  simp only [QI, Vp (v0 := v0) (v1 := v1) (v2 := v2) (v3 := v3) (by omega), As, Au, Ah, Ai, decide_true, cond_true]
  unfold Hx;by_cases q : fd v1 (cl v1 j 0) < j
  ·rw [ifF (by omega), decide_eq_true q]
   cases nm (cl v1 j 0) <;> rfl
  ·rw [ifT (by omega), decide_eq_false q]
   cases nm (cl v1 j 0) <;> cases decide ((cl v1 j 2).toInt < 0) <;> cases decide (1048576 < (cl v1 j 2).toInt) <;> rfl
theorem iR (hs : Cg v3) (hn : len v3 < 1000) (hn1 : len v1 < 1000) (hn2 : len v2 < 1000) : I8 (.int 0) v0 v1 v2 v3 = cond (decide (fdG (Ff v0 v1 v2 v3) (len v3) 0 < 0)) (I8 (.int (len v3 : Nat)) v0 v1 v2 v3) (.row [.int 1, .int (fdG (Ff v0 v1 v2 v3) (len v3) 0).toNat, .int 293]) :=
 Ek (F := fun j => I8 (.int (j : Nat)) v0 v1 v2 v3) (n := len v3) (bad := Ff v0 v1 v2 v3) (B := fun j => .row [.int 1, .int (j : Nat), .int 293]) fun j hj => by
  show I8 (.int (j : Nat)) v0 v1 v2 v3 = cond _ _ (I8 (.int (j + 1 : Nat)) v0 v1 v2 v3);rw [XD, ifT (by omega), AZ (by omega)]
  simp only [ZD hs hn hn1 hn2 hj, As, Au, Ah, Ai, decide_true, cond_true];cases Ff v0 v1 v2 v3 j <;> rfl
theorem Yx (hs : Cg v3) (hn : len v3 < 1000) (hn1 : len v1 < 1000) (hn2 : len v2 < 1000) (v0 : D) : ∃ a e, QV v0 v1 v2 v3 = .row [.int 1, .int a, .int e] ∧ decide (e = 0) = rok v0 v1 v2 v3 := by
 have E : ∀ a e : Int, e ≠ 0 → rok v0 v1 v2 v3 = false → ∃ a' e', D.row [.int 1, .int a, .int e] = .row [.int 1, .int a', .int e'] ∧ decide (e' = 0) = rok v0 v1 v2 v3 := fun a e h q => ⟨a, e, rfl, by rw [q]; exact decide_eq_false h⟩
 rw [ey];simp only [QI, As, Au, Ah, Ai, decide_true, cond_true];cases c0 : nm v0
 ·exact E _ _ (by omega) (by unfold rok; rw [c0]; rfl)
 by_cases c1 : 4 < (len v2 : Int)
 ·rw [ifT c1];exact E _ _ (by omega) (by unfold rok N0; rw [c0, ifT c1]; rfl)
 rw [ifF c1, i6 hn2];by_cases c2 : fdG (Hy v2) (len v2) 0 < 0;rotate_left
 ·rw [ifF c2];exact E _ _ (by omega) (by unfold rok N0; rw [c0, ifF c1, decide_eq_false c2]; rfl)
 rw [ifT c2, Xs, ifF (by omega)]
 have k1 : decide (N0 v2 < 0) = true := by unfold N0; rw [ifF c1]; exact decide_eq_true c2
 by_cases c3 : (len v1 : Int) = 0
 ·rw [ifT c3];exact E _ _ (by omega) (by unfold rok; rw [c0, k1]; unfold Nk; rw [ifT (by omega)]; rfl)
 rw [ifF c3];by_cases c4 : 24 < (len v1 : Int)
 ·rw [ifT c4];exact E _ _ (by omega) (by unfold rok; rw [c0, k1]; unfold Nk; rw [ifF (by omega), ifT c4]; rfl)
 rw [ifF c4, jc hn1];by_cases c5 : fdG (Hx v1) (len v1) 0 < 0;rotate_left
 ·rw [ifF c5];exact E _ _ (by omega) (by unfold rok; rw [c0, k1]; unfold Nk; rw [ifF (by omega), ifF c4, decide_eq_false c5]; rfl)
 rw [ifT c5, X1, ifF (by omega)]
 have k2 : decide (Nk v1 < 0) = true := by unfold Nk; rw [ifF (by omega), ifF c4]; exact decide_eq_true c5
 by_cases c6 : 80 < (len v3 : Int)
 ·rw [ifT c6];exact E _ _ (by omega) (by unfold rok; rw [c0, k1, k2]; unfold Qu; rw [ifT c6]; rfl)
 rw [ifF c6, iR hs hn hn1 hn2];by_cases c7 : fdG (Ff v0 v1 v2 v3) (len v3) 0 < 0;rotate_left
 ·rw [ifF c7];exact E _ _ (by omega) (by unfold rok; rw [c0, k1, k2]; unfold Qu; rw [ifF c6, decide_eq_false c7]; rfl)
 rw [ifT c7, XD, ifF (by omega)]
 exact ⟨0, 0, rfl, by unfold rok; rw [c0, k1, k2]; unfold Qu; rw [ifF c6, decide_eq_true c7]; rfl⟩
end
end Ci
namespace Ci
open Go Go.AE
def IG (l : D) (i : Nat) : Bool := !decide (fdG (fun j => D.strEq (cl l j 0) (cl l i 0)) i 0 < 0)
def Ih (v1 v5 v8 : D) (i : Nat) : Bool := decide (fd v1 (cl v8 i 0) < 0) || (decide (fd v5 (cl v8 i 1) < 0) || IG v8 i)
def Iu (v2 v6 v9 : D) (i : Nat) : Bool := decide (fd v6 (cl v9 i 0) < 0) || ((!eqC (cl v9 i 1) 0 0 && decide (fd v2 (cl v9 i 1) < 0)) || (IG v9 i || (decide (1000 < (cl v9 i 2).toInt) || decide ((cl v9 i 2).toInt < (-1000)))))
section
variable [Ap]
variable {v0 v1 v2 v3 v4 v5 v6 v7 v8 v9 : D}
variable {p8 p9 : Bool}
def chk (v0 v1 v2 v3 v4 v5 v6 v7 v8 v9 : D) : D := cond (rok v0 v1 v2 v3) (cond (rok v4 v5 v6 v7) (cond (decide (24 < (len v8 : Int))) (.row [.int 1, .int 24, .int 490])
 (cond (decide (fdG (Ih v1 v5 v8) (len v8) 0 < 0)) (cond (decide (4 < (len v9 : Int))) (.row [.int 1, .int 4, .int 491])
  (cond (decide (fdG (Iu v2 v6 v9) (len v9) 0 < 0)) (.row [.int 1, .int 0, .int 0]) (.row [.int 1, .int (fdG (Iu v2 v6 v9) (len v9) 0).toNat, .int 491])))
  (.row [.int 1, .int (fdG (Ih v1 v5 v8) (len v8) 0).toNat, .int 490]))) (.row [.int 1, .int 0, .int 2])) (.row [.int 1, .int 0, .int 2])
theorem iY (hn1 : len v1 < 1000) (hn5 : len v5 < 1000) (hn : len v8 < 1000) {b : Bool} : Fu v0 v1 v2 v3 v4 v5 v6 v7 v8 (.bool p8) v9 (.bool p9) (.bool b) (.int 0) Aw = cond (decide (fdG (Ih v1 v5 v8) (len v8) 0 < 0)) (Fu v0 v1 v2 v3 v4 v5 v6 v7 v8 (.bool p8) v9 (.bool p9) (.bool b) (.int (len v8 : Nat)) (CD (fun j => cl v8 j 0) (len v8))) (.row [.int 1, .int (fdG (Ih v1 v5 v8) (len v8) 0).toNat, .int 490]) :=
 Ek (F := fun j => Fu v0 v1 v2 v3 v4 v5 v6 v7 v8 (.bool p8) v9 (.bool p9) (.bool b) (.int (j : Nat)) (CD (fun j => cl v8 j 0) j)) (n := len v8) (bad := Ih v1 v5 v8) (B := fun j => .row [.int 1, .int (j : Nat), .int 490]) fun i hi => by
  show Fu v0 v1 v2 v3 v4 v5 v6 v7 v8 (.bool p8) v9 (.bool p9) (.bool b) (.int (i : Nat)) (CD (fun j => cl v8 j 0) i) = cond _ _ (Fu v0 v1 v2 v3 v4 v5 v6 v7 v8 (.bool p8) v9 (.bool p9) (.bool b) (.int (i + 1 : Nat)) (CD (fun j => cl v8 j 0) (i + 1)))
  rw [Xn, ifT (by omega), ifF (by omega), AZ (by omega)]
  simp only [Nt (v0 := v1) (by omega), Nt (v0 := v5) (by omega), As, Au, Ah, Ai, decide_true, cond_true, OQ]
  unfold Ih IG;cases decide (fd v1 (cl v8 i 0) < 0) <;> cases decide (fd v5 (cl v8 i 1) < 0) <;> simp only [cond_true, cond_false, Bool.true_or, Bool.false_or]
  by_cases q : fdG (fun j => D.strEq (cl v8 j 0) (cl v8 i 0)) i 0 < 0
  ·rw [ifT q, decide_eq_true q];show Fu v0 v1 v2 v3 v4 v5 v6 v7 v8 (.bool p8) v9 (.bool p9) (.bool b) (.int (i + 1 : Nat)) (ad (CD (fun j => cl v8 j 0) i) (.row [(fun j : Nat => cl v8 j 0) i, .bool true])) = Fu v0 v1 v2 v3 v4 v5 v6 v7 v8 (.bool p8) v9 (.bool p9) (.bool b) (.int (i + 1 : Nat)) (CD (fun j => cl v8 j 0) (i + 1))
   rw [Kq]
  ·have a := E9 (p := fun j => D.strEq (cl v8 j 0) (cl v8 i 0)) (k := i) (i := 0)
   rw [ifF q, decide_eq_false q, Ko (by omega) (by omega)]
   rfl
theorem VV {n : Int} {α : Type} {x y z : α} (hz : z = cond (decide (1000 < n) || decide (n < (-1000))) x y) : cond (decide (n < IntKind.wrap .i64 (0 - n))) (cond (decide (1000 < IntKind.wrap .i64 (0 - n))) x (cond (decide (n < (-1000))) x y)) (cond (decide (1000 < n)) x (cond (decide (n < (-1000))) x y)) = z := by
 subst hz;by_cases c : 1000 < n
 ·rw [decide_eq_true c, Bool.true_or, cond_true];by_cases q : n < IntKind.wrap .i64 (0 - n)
  ·rw [ifT q, ifT (by omega)]; rfl
  ·rw [ifF q]; rfl
 rw [decide_eq_false c, Bool.false_or, cond_false];by_cases d : n < -1000
 ·rw [ifT d, Bool.cond_self, Bool.cond_self]
 ·rw [ifF d, BD (by omega) (by omega), ifF (p := 1000 < 0 - n) (by omega), Bool.cond_self]
theorem i9 (hn2 : len v2 < 1000) (hn6 : len v6 < 1000) (hn : len v9 < 1000) {b c d : Bool} {m : Int} : DN v0 v1 v2 v3 v4 v5 v6 v7 v8 (.bool p8) v9 (.bool p9) (.bool b) (.int m) (.bool c) (.bool d) (.int 0) Aw = cond (decide (fdG (Iu v2 v6 v9) (len v9) 0 < 0)) (DN v0 v1 v2 v3 v4 v5 v6 v7 v8 (.bool p8) v9 (.bool p9) (.bool b) (.int m) (.bool c) (.bool d) (.int (len v9 : Nat)) (CD (fun j => cl v9 j 0) (len v9))) (.row [.int 1, .int (fdG (Iu v2 v6 v9) (len v9) 0).toNat, .int 491]) :=
 Ek (F := fun j => DN v0 v1 v2 v3 v4 v5 v6 v7 v8 (.bool p8) v9 (.bool p9) (.bool b) (.int m) (.bool c) (.bool d) (.int (j : Nat)) (CD (fun j => cl v9 j 0) j)) (n := len v9) (bad := Iu v2 v6 v9) (B := fun j => .row [.int 1, .int (j : Nat), .int 491]) fun i hi => by
  show DN v0 v1 v2 v3 v4 v5 v6 v7 v8 (.bool p8) v9 (.bool p9) (.bool b) (.int m) (.bool c) (.bool d) (.int (i : Nat)) (CD (fun j => cl v9 j 0) i) = cond _ _ (DN v0 v1 v2 v3 v4 v5 v6 v7 v8 (.bool p8) v9 (.bool p9) (.bool b) (.int m) (.bool c) (.bool d) (.int (i + 1 : Nat)) (CD (fun j => cl v9 j 0) (i + 1)))
  have hs : ad (CD (fun j => cl v9 j 0) i) (.row [cl v9 i 0, .bool true]) = CD (fun j => cl v9 j 0) (i + 1) := Kq (f := fun j => cl v9 j 0)
  rw [Xl, ifT (by omega), ifF (by omega), AZ (by omega)]
  simp only [MN (v0 := v2) (by omega), MN (v0 := v6) (by omega), As, Au, Ah, Ai, decide_true, cond_true, OQ, hs]
  unfold Iu IG;by_cases q : fdG (fun j => D.strEq (cl v9 j 0) (cl v9 i 0)) i 0 < 0
  ·simp only [ifT q, decide_eq_true q];cases decide (fd v6 (cl v9 i 0) < 0) <;> cases eqC (cl v9 i 1) 0 0 <;> cases decide (fd v2 (cl v9 i 1) < 0) <;> first | rfl | (simp only [cond_true, cond_false, Bool.true_or, Bool.false_or, Bool.not_true, Bool.not_false, Bool.true_and, Bool.false_and]; exact VV rfl)
  ·have a := E9 (p := fun j => D.strEq (cl v9 j 0) (cl v9 i 0)) (k := i) (i := 0)
   simp only [ifF q, decide_eq_false q, Ko (f := fun j : Nat => cl v9 j 0) (i := i) (j := fdG (fun j => D.strEq (cl v9 j 0) (cl v9 i 0)) i 0) (by omega) (by omega)]
   cases decide (fd v6 (cl v9 i 0) < 0) <;> cases eqC (cl v9 i 1) 0 0 <;> cases decide (fd v2 (cl v9 i 1) < 0) <;> rfl
theorem YP (hs : Cg v3) (hs7 : Cg v7) (hn1 : len v1 < 1000) (hn2 : len v2 < 1000) (hn3 : len v3 < 1000) (hn5 : len v5 < 1000) (hn6 : len v6 < 1000) (hn7 : len v7 < 1000) (hn8 : len v8 < 1000) (hn9 : len v9 < 1000) : Mg v0 v1 v2 v3 v4 v5 v6 v7 v8 (.bool p8) v9 (.bool p9) = chk v0 v1 v2 v3 v4 v5 v6 v7 v8 v9 := by
 rw [aR];simp only [OF, Ue (v2 := v2) hn2, Ue (v2 := v6) hn6, Uy (v1 := v1) hn1, Uy (v1 := v5) hn5, Vq hs hn3 hn1 hn2, Vq hs7 hn7 hn5 hn6, As, Au, Ah, Ai, decide_true, cond_true, iY hn1 hn5 hn8];unfold chk rok N0 Nk Qu;cases nm v0 <;> simp only [cond_true, cond_false, Bool.true_and, Bool.false_and]
 cases decide ((cond (decide (4 < (len v2 : Int))) 4 (fdG (Hy v2) (len v2) 0)) < 0) <;> simp only [cond_true, cond_false, Bool.true_and, Bool.false_and]
 cases decide ((cond (decide ((len v1 : Int) < 1)) 0 (cond (decide (24 < (len v1 : Int))) 24 (fdG (Hx v1) (len v1) 0))) < 0) <;> simp only [cond_true, cond_false, Bool.true_and, Bool.false_and]
 cases decide ((cond (decide (80 < (len v3 : Int))) 80 (fdG (Ff v0 v1 v2 v3) (len v3) 0)) < 0) <;> simp only [cond_true, cond_false, Bool.true_and, Bool.false_and]
 cases nm v4 <;> simp only [cond_true, cond_false, Bool.true_and, Bool.false_and]
 cases decide ((cond (decide (4 < (len v6 : Int))) 4 (fdG (Hy v6) (len v6) 0)) < 0) <;> simp only [cond_true, cond_false, Bool.true_and, Bool.false_and]
 cases decide ((cond (decide ((len v5 : Int) < 1)) 0 (cond (decide (24 < (len v5 : Int))) 24 (fdG (Hx v5) (len v5) 0))) < 0) <;> simp only [cond_true, cond_false, Bool.true_and, Bool.false_and]
 cases decide ((cond (decide (80 < (len v7 : Int))) 80 (fdG (Ff v4 v5 v6 v7) (len v7) 0)) < 0) <;> simp only [cond_true, cond_false, Bool.true_and, Bool.false_and]
 congr 2
 rw [Xn, ifF (by omega), i9 hn2 hn6 hn9]
 congr 2
 rw [Xl, ifF (by omega)]
def Kt (v9 : D) : Prop := ∀ i : Nat, i < len v9 → ∃ n, cl v9 i 2 = .int n
end
end Ci
namespace Ci
open Go Go.AE
section
variable [Ap]
variable {v0 v1 v2 v3 v4 v5 v10 v11 : D}
variable {p8 p9 : Bool}
def XH (v11 : D) : Prop := ∀ i : Nat, i < len v11 → ∃ n, cl v11 i 0 = .int n
def kv (v11 : D) (j : Nat) : Int := if j < len v11 then (cl v11 j 0).toInt else 0
theorem XH.at {v11 : D} (h : XH v11) {j : Nat} (hj : j < len v11) : cl v11 j 0 = .int (kv v11 j) := by
 obtain ⟨n, e⟩ := h j hj;unfold kv;rw [if_pos hj, e];rfl
end
end Ci
namespace Ci
open Go Go.AE
def pl (v6 v9 : D) (i : Nat) : Int := fd v6 (cl v9 i 0)
def pv (v2 v9 v11 : D) (i : Nat) : Int := cond (decide (fd v2 (cl v9 i 1) < 0)) (cl v9 i 2).toInt (IntKind.wrap .i64 ((cl v9 i 2).toInt + kv v11 (fd v2 (cl v9 i 1)).toNat))
def vs (v2 v6 v9 v11 : D) (j : Nat) : Nat → Int
 | 0 => 0
 | i + 1 => if pl v6 v9 i = j then pv v2 v9 v11 i else vs v2 v6 v9 v11 j i
theorem MA {v2 v6 v9 v11 : D} {j i : Nat} : vs v2 v6 v9 v11 j (i + 1) = if pl v6 v9 i = j then pv v2 v9 v11 i else vs v2 v6 v9 v11 j i := rfl
def Jo (v2 v6 v9 v11 : D) (i : Nat) : Bool := decide (pv v2 v9 v11 i < 0) || decide ((cl v6 (pl v6 v9 i) 1).toInt < pv v2 v9 v11 i)
section
variable [Ap]
variable {v0 v1 v2 v3 v4 v5 v6 v7 v8 v9 v10 v11 : D}
variable {p8 p9 : Bool}
theorem Yb {a b c d : Int} {st : Nat} (hn : len v8 < 1000) (h : st < len v1) : KJ v8 (.bool p8) v0 v1 v2 v3 (.int (st : Nat)) (.int a) (.int b) (.int c) (.int d) = .row [.int 1, .int (fd v8 (cl v1 st 0))] := by
 rw [cr];refine find (F := fun j => Mk v8 (.bool p8) (.int (j : Nat)) v0 v1 v2 v3 (.int (st : Nat)) (.int a) (.int b) (.int c) (.int d)) (n := len v8) (bad := fun j => D.strEq (cl v8 j 0) (cl v1 st 0)) (fun j hj => ?_) ?_
 ·show Mk v8 (.bool p8) (.int (j : Nat)) v0 v1 v2 v3 (.int (st : Nat)) (.int a) (.int b) (.int c) (.int d) = _;rw [Xy, ifT (by omega), ifF (by omega), AZ (by omega), ifF (by omega), ifT (by omega)]
 ·show Mk v8 (.bool p8) (.int (len v8 : Nat)) v0 v1 v2 v3 (.int (st : Nat)) (.int a) (.int b) (.int c) (.int d) = _;rw [Xy, ifF (by omega)]
theorem Tg {st st' : Int} (hp : Kt v9) (hn : len v9 < 1000) (h2 : len v2 ≤ 4) (h6 : len v6 ≤ 4) {i : Nat} (hi : i < len v9) (h0 : 0 ≤ pl v6 v9 i) :
  Bj v9 (.bool p9) (.int (i : Nat)) v8 v0 v1 v2 v3 v4 v5 v6 v7 (.int st) (.int (kv v11 0)) (.int (kv v11 1)) (.int (kv v11 2)) (.int (kv v11 3)) (.int st') (.int (vs v2 v6 v9 v11 0 i)) (.int (vs v2 v6 v9 v11 1 i)) (.int (vs v2 v6 v9 v11 2 i)) (.int (vs v2 v6 v9 v11 3 i)) =
   cond (Jo v2 v6 v9 v11 i) (.row [.int 1, .int 0, .int 0, .int 0, .int 0, .int 0, .int 3]) (Bj v9 (.bool p9) (.int (i + 1 : Nat)) v8 v0 v1 v2 v3 v4 v5 v6 v7 (.int st) (.int (kv v11 0)) (.int (kv v11 1)) (.int (kv v11 2)) (.int (kv v11 3)) (.int st') (.int (vs v2 v6 v9 v11 0 (i + 1))) (.int (vs v2 v6 v9 v11 1 (i + 1))) (.int (vs v2 v6 v9 v11 2 (i + 1))) (.int (vs v2 v6 v9 v11 3 (i + 1)))) := by
 obtain ⟨n, hv⟩ := hp i hi;have hv' : cl v9 i 2 = .int (cl v9 i 2).toInt := by rw [hv]; rfl
 have l1 : pl v6 v9 i < len v6 := C2;have l2 := C2 (l := v2) (key := cl v9 i 1);have g2 := XL (l := v2) (key := cl v9 i 1);have hpl : fd v6 (cl v9 i 0) = pl v6 v9 i := rfl;rw [Xu (h0 := rfl), ifT (by omega), ifF (by omega), AZ (by omega)]
 simp only [MN (v0 := v6) (by omega), MN (v0 := v2) (by omega), As, Au, Ah, decide_true, cond_true, hpl, decide_eq_true l1, decide_eq_false (show ¬ pl v6 v9 i < 0 by omega), cond_false]
 have key : ∀ w : Int, pv v2 v9 v11 i = w → cond (decide (w < 0)) (D.row [.int 1, .int 0, .int 0, .int 0, .int 0, .int 0, .int 3]) (cond (decide ((cl v6 (pl v6 v9 i) 1).toInt < w)) (D.row [.int 1, .int 0, .int 0, .int 0, .int 0, .int 0, .int 3])
   (cond (decide (pl v6 v9 i = 0)) (Bj v9 (.bool p9) (.int (i + 1 : Nat)) v8 v0 v1 v2 v3 v4 v5 v6 v7 (.int st) (.int (kv v11 0)) (.int (kv v11 1)) (.int (kv v11 2)) (.int (kv v11 3)) (.int st') (.int w) (.int (vs v2 v6 v9 v11 1 i)) (.int (vs v2 v6 v9 v11 2 i)) (.int (vs v2 v6 v9 v11 3 i)))
   (cond (decide (pl v6 v9 i = 1)) (Bj v9 (.bool p9) (.int (i + 1 : Nat)) v8 v0 v1 v2 v3 v4 v5 v6 v7 (.int st) (.int (kv v11 0)) (.int (kv v11 1)) (.int (kv v11 2)) (.int (kv v11 3)) (.int st') (.int (vs v2 v6 v9 v11 0 i)) (.int w) (.int (vs v2 v6 v9 v11 2 i)) (.int (vs v2 v6 v9 v11 3 i)))
   (cond (decide (pl v6 v9 i = 2)) (Bj v9 (.bool p9) (.int (i + 1 : Nat)) v8 v0 v1 v2 v3 v4 v5 v6 v7 (.int st) (.int (kv v11 0)) (.int (kv v11 1)) (.int (kv v11 2)) (.int (kv v11 3)) (.int st') (.int (vs v2 v6 v9 v11 0 i)) (.int (vs v2 v6 v9 v11 1 i)) (.int w) (.int (vs v2 v6 v9 v11 3 i)))
   (cond (decide (pl v6 v9 i = 3)) (Bj v9 (.bool p9) (.int (i + 1 : Nat)) v8 v0 v1 v2 v3 v4 v5 v6 v7 (.int st) (.int (kv v11 0)) (.int (kv v11 1)) (.int (kv v11 2)) (.int (kv v11 3)) (.int st') (.int (vs v2 v6 v9 v11 0 i)) (.int (vs v2 v6 v9 v11 1 i)) (.int (vs v2 v6 v9 v11 2 i)) (.int w)) (D.row [])))))) =
   cond (Jo v2 v6 v9 v11 i) (.row [.int 1, .int 0, .int 0, .int 0, .int 0, .int 0, .int 3]) (Bj v9 (.bool p9) (.int (i + 1 : Nat)) v8 v0 v1 v2 v3 v4 v5 v6 v7 (.int st) (.int (kv v11 0)) (.int (kv v11 1)) (.int (kv v11 2)) (.int (kv v11 3)) (.int st') (.int (vs v2 v6 v9 v11 0 (i + 1))) (.int (vs v2 v6 v9 v11 1 (i + 1))) (.int (vs v2 v6 v9 v11 2 (i + 1))) (.int (vs v2 v6 v9 v11 3 (i + 1)))) := by
  intro w hw;unfold Jo;simp only [MA, hw];cases decide (w < 0);rotate_left
  ·rfl
  cases decide ((cl v6 (pl v6 v9 i) 1).toInt < w);rotate_left
  ·rfl
  simp only [cond_false, Bool.false_or];by_cases k0 : pl v6 v9 i = 0
  ·rw [ifT k0, if_pos (by omega), if_neg (by omega), if_neg (by omega), if_neg (by omega)]
  rw [ifF k0];by_cases k1 : pl v6 v9 i = 1
  ·rw [ifT k1, if_neg (by omega), if_pos (by omega), if_neg (by omega), if_neg (by omega)]
  rw [ifF k1];by_cases k2 : pl v6 v9 i = 2
  ·rw [ifT k2, if_neg (by omega), if_neg (by omega), if_pos (by omega), if_neg (by omega)]
  rw [ifF k2];have k3 : pl v6 v9 i = 3 := by omega
  rw [ifT k3, if_neg (by omega), if_neg (by omega), if_neg (by omega), if_pos (by omega)]
 have pvT : fd v2 (cl v9 i 1) < 0 → pv v2 v9 v11 i = (cl v9 i 2).toInt := fun h => ifT h
 have pvF : ∀ m : Nat, fd v2 (cl v9 i 1) = m → pv v2 v9 v11 i = IntKind.wrap .i64 ((cl v9 i 2).toInt + kv v11 m) := fun m h => by
  unfold pv;rw [ifF (by omega), h]
  rfl
 rcases g2 with g | g
 ·rw [ifT (by omega)]
  refine Eq.trans ?_ (key _ (pvT (by omega)))
  rw [← hv']
 rw [ifF (by omega)]
 by_cases k0 : fd v2 (cl v9 i 1) = 0
 ·rw [ifT k0];exact key _ (pvF 0 k0)
 rw [ifF k0];by_cases k1 : fd v2 (cl v9 i 1) = 1
 ·rw [ifT k1];exact key _ (pvF 1 k1)
 rw [ifF k1];by_cases k2 : fd v2 (cl v9 i 1) = 2
 ·rw [ifT k2];exact key _ (pvF 2 k2)
 rw [ifF k2];have k3 : fd v2 (cl v9 i 1) = 3 := by omega
 rw [ifT k3];exact key _ (pvF 3 k3)
theorem Yp {st : Nat} (hp : Kt v9) (hn5 : len v5 < 1000) (hn8 : len v8 < 1000) (hn : len v9 < 1000) (h2 : len v2 ≤ 4) (h6 : len v6 ≤ 4) (hst : st < len v1) (h0 : ∀ i, i < len v9 → 0 ≤ pl v6 v9 i) :
  NB v0 v1 v2 v3 v4 v5 v6 v7 v8 (.bool p8) v9 (.bool p9) (.int (st : Nat)) (.int (kv v11 0)) (.int (kv v11 1)) (.int (kv v11 2)) (.int (kv v11 3)) = cond (decide (fd v8 (cl v1 st 0) < 0)) (.row [.int 1, .int 0, .int 0, .int 0, .int 0, .int 0, .int 9])
   (cond (decide (fdG (Jo v2 v6 v9 v11) (len v9) 0 < 0)) (.row [.int 1, .int (fd v5 (cl v8 (fd v8 (cl v1 st 0)) 1)), .int (vs v2 v6 v9 v11 0 (len v9)), .int (vs v2 v6 v9 v11 1 (len v9)), .int (vs v2 v6 v9 v11 2 (len v9)), .int (vs v2 v6 v9 v11 3 (len v9)), .int 0]) (.row [.int 1, .int 0, .int 0, .int 0, .int 0, .int 0, .int 3])) := by
 rw [fh];have l := C2 (l := v8) (key := cl v1 st 0);simp only [Yb hn8 hst, Nt (v0 := v5) (by omega), As, Au, Ah, decide_true, cond_true, decide_eq_true l]
 congr 1
 have L := Ek (F := fun j => Bj v9 (.bool p9) (.int (j : Nat)) v8 v0 v1 v2 v3 v4 v5 v6 v7 (.int (st : Nat)) (.int (kv v11 0)) (.int (kv v11 1)) (.int (kv v11 2)) (.int (kv v11 3)) (.int (fd v5 (cl v8 (fd v8 (cl v1 st 0)) 1))) (.int (vs v2 v6 v9 v11 0 j)) (.int (vs v2 v6 v9 v11 1 j)) (.int (vs v2 v6 v9 v11 2 j)) (.int (vs v2 v6 v9 v11 3 j))) (n := len v9) (bad := Jo v2 v6 v9 v11) (B := fun _ => .row [.int 1, .int 0, .int 0, .int 0, .int 0, .int 0, .int 3]) (fun j hj => Tg hp hn h2 h6 hj (h0 j hj))
 refine L.trans ?_
 congr 1
 show Bj v9 (.bool p9) (.int (len v9 : Nat)) v8 v0 v1 v2 v3 v4 v5 v6 v7 (.int (st : Nat)) (.int (kv v11 0)) (.int (kv v11 1)) (.int (kv v11 2)) (.int (kv v11 3)) (.int (fd v5 (cl v8 (fd v8 (cl v1 st 0)) 1))) (.int (vs v2 v6 v9 v11 0 (len v9))) (.int (vs v2 v6 v9 v11 1 (len v9))) (.int (vs v2 v6 v9 v11 2 (len v9))) (.int (vs v2 v6 v9 v11 3 (len v9))) = _;rw [Xu (h0 := rfl), ifF (by omega)]
theorem EB {F : Nat → D} {n : Nat} (hs : ∀ j, j < n → F j = F (j + 1)) : F 0 = F n := by
 have := Ek (F := F) (n := n) (bad := fun _ => false) (B := fun _ => .row []) (fun j hj => (hs j hj).trans rfl)
 rw [BI (fun _ _ _ => rfl)] at this
 exact this
end
end Ci
namespace Ci
open Go Go.AE
section
variable [Ap]
variable {v0 v1 v2 v3 v4 v5 v6 v7 v8 v9 v10 v11 v13 : D}
variable {p8 p9 : Bool}
theorem eT {j i : Nat} : vs v2 v6 v9 v11 j i = 0 ∨ ∃ k, k < i ∧ pl v6 v9 k = j ∧ vs v2 v6 v9 v11 j i = pv v2 v9 v11 k := by
 induction i with
 | zero => exact .inl rfl
 | succ i ih =>
  rw [MA];by_cases c : pl v6 v9 i = j
  ·rw [if_pos c];exact .inr ⟨i, by omega, c, rfl⟩
  ·rw [if_neg c];rcases ih with h | ⟨k, h1, h2, h3⟩
   ·exact .inl h
   ·exact .inr ⟨k, by omega, h2, h3⟩
end
end Ci
namespace Ci
open Go Go.AE
structure Rk (S C T : D) : Prop where
 s0 : 0 < len S
 s1 : len S < 1000
 c1 : len C ≤ 4
 t1 : len T ≤ 20
 sid : ∀ i : Nat, i < len S → fd S (cl S i 0) = i
 cid : ∀ i : Nat, i < len C → fd C (cl C i 0) = i
 lim : ∀ i : Nat, i < len C → 1 ≤ (cl C i 1).toInt ∧ (cl C i 1).toInt ≤ 1000
 cne : ∀ i : Nat, i < len C → eqC (cl C i 0) 0 0 = false
 cI : ∀ i : Nat, i < len C → ∃ m, cl C i 1 = .int m
 tI : Cg T
 frm : ∀ i : Nat, i < len T → 0 ≤ fd S (cl T i 0)
 to : ∀ i : Nat, i < len T → 0 ≤ fd S (cl T i 1)
 ctr : ∀ i : Nat, i < len T → (eqC (cl T i 5) 0 0 = true ∧ fd C (cl T i 5) = -1) ∨ (eqC (cl T i 5) 0 0 = false ∧ 0 ≤ fd C (cl T i 5) ∧ 0 ≤ (cl T i 6).toInt ∧ (cl T i 6).toInt ≤ (cl T i 7).toInt ∧
  (cl T i 7).toInt ≤ (cl C (fd C (cl T i 5)) 1).toInt ∧ -1000 ≤ (cl T i 8).toInt ∧ (cl T i 8).toInt ≤ 1000 ∧ 0 ≤ (cl T i 6).toInt + (cl T i 8).toInt ∧ (cl T i 7).toInt + (cl T i 8).toInt ≤ (cl C (fd C (cl T i 5)) 1).toInt)
section
variable [Ap]
theorem Y8 {v : D} (h : nm v = true) : 1 ≤ B9 v := by
 unfold nm at h;rw [ZL] at h;by_cases c : (B9 v : Int) < 1
 ·rw [ifT c] at h;cases h
 ·omega
theorem Y4 {v0 S C T : D} (h : rok v0 S C T = true) (hc : ∀ i : Nat, i < len C → ∃ m, cl C i 1 = .int m) (ht : Cg T) (hS : len S ≤ 8) (hT : len T ≤ 20) : Rk S C T := by
 unfold rok at h;simp only [Bool.and_eq_true] at h;obtain ⟨_, h1, h2, h3⟩ := h;unfold N0 at h1;unfold Nk at h2;unfold Qu at h3;by_cases c1 : 4 < (len C : Int)
 ·rw [ifT c1] at h1; cases h1
 rw [ifF c1] at h1;by_cases c2 : (len S : Int) < 1
 ·rw [ifT c2] at h2; cases h2
 rw [ifF c2, ifF (by omega)] at h2
 rw [ifF (by omega)] at h3
 have B1 : ∀ i, i < len C → Hy C i = false := fun i hi => DJ (k := len C) (i := 0) (by omega) (.inr ⟨dT h1, by omega⟩)
 have B2 : ∀ i, i < len S → Hx S i = false := fun i hi => DJ (k := len S) (i := 0) (by omega) (.inr ⟨dT h2, by omega⟩)
 have B3 : ∀ i, i < len T → Ff v0 S C T i = false := fun i hi => DJ (k := len T) (i := 0) (by omega) (.inr ⟨dT h3, by omega⟩)
 have E1 : ∀ i, i < len C → nm (cl C i 0) = true ∧ fd C (cl C i 0) = i ∧ 1 ≤ (cl C i 1).toInt ∧ (cl C i 1).toInt ≤ 1000 := fun i hi => by
  have b := B1 i hi;unfold Hy at b;simp only [Bool.or_eq_false_iff, Bool.not_eq_false'] at b;have s := Gk hi;have b2 := dF b.1.1.2;have b3 := dF b.1.2;have b4 := dF b.2;exact ⟨b.1.1.1, by omega, by omega, by omega⟩
 have ne : ∀ i, i < len C → eqC (cl C i 0) 0 0 = false := fun i hi => by
  rw [EJ];have := Y8 (E1 i hi).1;exact decide_eq_false (by omega)
 refine ⟨by omega, by omega, by omega, hT, fun i hi => ?_, fun i hi => (E1 i hi).2.1, fun i hi => (E1 i hi).2.2, ne, hc, ht, fun i hi => ?_, fun i hi => ?_, fun i hi => ?_⟩
 ·have b := B2 i hi;unfold Hx at b;simp only [Bool.or_eq_false_iff] at b;have s := Gk hi;have b2 := dF b.1.1.2;omega
 ·have b := B3 i hi;unfold Ff at b;simp only [Bool.or_eq_false_iff] at b;exact Int.not_lt.1 (dF b.1)
 ·have b := B3 i hi;unfold Ff at b;simp only [Bool.or_eq_false_iff] at b;exact Int.not_lt.1 (dF b.2.1)
 ·have b := B3 i hi;unfold Ff at b;simp only [Bool.or_eq_false_iff] at b;have b := b.2.2.2.2;unfold Ws at b;cases hz : eqC (cl T i 5) 0 0
  ·right;rw [hz] at b;simp only [cond_false] at b;by_cases d1 : fd C (cl T i 5) < 0
   ·rw [ifT d1] at b; cases b
   rw [ifF d1] at b;by_cases d2 : (cl T i 6).toInt < 0
   ·rw [ifT d2] at b; cases b
   rw [ifF d2] at b;by_cases d3 : (cl T i 7).toInt < (cl T i 6).toInt
   ·rw [ifT d3] at b; cases b
   rw [ifF d3] at b;by_cases d4 : (cl T i 8).toInt < -1000
   ·rw [ifT d4] at b; cases b
   rw [ifF d4] at b;by_cases d5 : 1000 < (cl T i 8).toInt
   ·rw [ifT d5] at b; cases b
   rw [ifF d5] at b;by_cases d6 : (cl C (fd C (cl T i 5)) 1).toInt < (cl T i 7).toInt
   ·rw [ifT d6] at b; cases b
   rw [ifF d6] at b;have lt := C2 (l := C) (key := cl T i 5);have l := E1 (fd C (cl T i 5)).toNat (by omega)
   rw [show (((fd C (cl T i 5)).toNat : Nat) : Int) = fd C (cl T i 5) by omega] at l
   rw [BD (by omega) (by omega), BD (by omega) (by omega)] at b
   by_cases d7 : (cl T i 6).toInt + (cl T i 8).toInt < 0
   ·rw [ifT d7] at b; cases b
   rw [ifF d7] at b;by_cases d8 : (cl C (fd C (cl T i 5)) 1).toInt < (cl T i 7).toInt + (cl T i 8).toInt
   ·rw [ifT d8] at b; cases b
   exact ⟨rfl, by omega, by omega, by omega, by omega, by omega, by omega, by omega, by omega⟩
  ·left;refine ⟨rfl, ?_⟩;rcases XL (l := C) (key := cl T i 5) with g | g
   ·exact g
   exfalso
   have lt := C2 (l := C) (key := cl T i 5);have s := cW g
   have e : eqC (cl C (fd C (cl T i 5)) 0) 0 0 = eqC (cl T i 5) 0 0 := by
    rw [EJ, EJ];unfold B9;rw [D0.1 s]
   have l := ne (fd C (cl T i 5)).toNat (by omega)
   rw [show (((fd C (cl T i 5)).toNat : Nat) : Int) = fd C (cl T i 5) by omega] at l
   rw [e, hz] at l;cases l
end
abbrev Key := Int × Int × Int × Int × Int
def kc (k : Key) : Nat → Int
 | 0 => k.2.1
 | 1 => k.2.2.1
 | 2 => k.2.2.2.1
 | 3 => k.2.2.2.2
 | _ => 0
structure KOk (S C : D) (k : Key) : Prop where
 s0 : 0 ≤ k.1
 s1 : k.1 < len S
 v0 : ∀ j : Nat, j < len C → 0 ≤ kc k j ∧ kc k j ≤ (cl C j 1).toInt
 v1 : ∀ j : Nat, len C ≤ j → kc k j = 0
def en (S C T : D) (k : Key) (s : Nat) : Bool := D.strEq (cl T s 0) (cl S k.1 0) && (decide (fd C (cl T s 5) < 0) || (!decide (kc k (fd C (cl T s 5)).toNat < (cl T s 6).toInt) && !decide ((cl T s 7).toInt < kc k (fd C (cl T s 5)).toNat)))
def nv (C T : D) (k : Key) (s j : Nat) : Int := if fd C (cl T s 5) = j then kc k j + (cl T s 8).toInt else kc k j
def nx (S C T : D) (k : Key) (s : Nat) : Key := (fd S (cl T s 1), nv C T k s 0, nv C T k s 1, nv C T k s 2, nv C T k s 3)
theorem QX {S C T : D} {k : Key} {s j : Nat} (h : j < 4) : kc (nx S C T k s) j = nv C T k s j := by
 match j, h with
 | 0, _ => rfl
 | 1, _ => rfl
 | 2, _ => rfl
 | 3, _ => rfl
theorem Un {k : Key} {j : Nat} (h : 4 ≤ j) : kc k j = 0 := by
 match j, h with
 | j + 4, _ => rfl
theorem V1 {k k' : Key} (h : k.1 = k'.1) (hv : ∀ j, j < 4 → kc k j = kc k' j) : k = k' := by
 obtain ⟨a, b, c, d, e⟩ := k;obtain ⟨a', b', c', d', e'⟩ := k';have h0 := hv 0 (by omega)
 have h1 := hv 1 (by omega)
 have h2 := hv 2 (by omega)
 have h3 := hv 3 (by omega)
 simp only [kc] at h0 h1 h2 h3;simp only at h;subst h h0 h1 h2 h3;rfl
theorem NR {S C T : D} (hR : Rk S C T) {k : Key} (hk : KOk S C k) {s : Nat} (hs : s < len T) (he : en S C T k s = true) : KOk S C (nx S C T k s) := by
 have hc1 := hR.c1;have lt := C2 (l := S) (key := cl T s 1);have ltc := C2 (l := C) (key := cl T s 5);refine ⟨hR.to s hs, lt, fun j hj => ?_, fun j hj => ?_⟩
 ·rw [QX (by omega)]
  unfold nv;have b := hk.v0 j hj;by_cases c : fd C (cl T s 5) = j
  ·rw [if_pos c];unfold en at he;simp only [Bool.and_eq_true, Bool.or_eq_true, Bool.not_eq_true', decide_eq_true_eq] at he;obtain ⟨_, he⟩ := he;rcases he with he | ⟨h1, h2⟩
   ·omega
   ·have h1 := dF h1;have h2 := dF h2;rw [c] at h1 h2;rcases hR.ctr s hs with ⟨_, q⟩ | ⟨_, q1, q2, q3, q4, q5, q6, q7, q8⟩
    ·omega
    ·rw [c] at q4 q8;have e : (j : Int).toNat = j := by omega
     rw [e] at h1 h2;omega
  ·rw [if_neg c];exact b
 ·by_cases c : j < 4
  ·rw [QX c];unfold nv;rw [if_neg (by omega)]
   exact hk.v1 j hj
  ·exact Un (by omega)
end Ci
namespace Ci
open Go Go.AE
def bkR (C : D) (g : Nat → Int) (i : Nat) : List D := (List.range i).map fun (j : Nat) => .row [cl C j 0, cl C j 1, .int (g j)]
def bk (C : D) (g : Nat → Int) (i : Nat) : D := .slc (decide (i = 0)) (bkR C g i)
theorem Wi {C : D} {g : Nat → Int} {n j : Nat} {h : j < (bkR C g n).length} : (bkR C g n)[j]'h = .row [cl C j 0, cl C j 1, .int (g j)] := by simp [bkR]
theorem BT {C : D} {g : Nat → Int} {i : Nat} : len (bk C g i) = i := by unfold bk bkR len; simp [D.rows]
theorem KD {C : D} {g : Nat → Int} {i j c : Nat} (h : j < i) : cl (bk C g i) j c = ([cl C j 0, cl C j 1, .int (g j)] : List D).getD c default := by
 show ((((List.range i).map fun (j : Nat) => D.row [cl C j 0, cl C j 1, .int (g j)])[j]?).getD default).cells.getD c default = _
 rw [List.getElem?_map, List.getElem?_range h];rfl
theorem dZ {C : D} {g : Nat → Int} {i : Nat} (h : g i = 0) {m : Int} (hm : cl C i 1 = .int m) : ad (bk C g i) (.row [cl C i 0, cl C i 1, .int 0]) = bk C g (i + 1) := by
 show D.slc false (bkR C g i ++ [_]) = D.slc (decide (i + 1 = 0)) (bkR C g (i + 1));unfold bkR;rw [List.range_succ, List.map_append, decide_eq_false (by omega)]
 simp [h]
theorem UO {C key : D} {g : Nat → Int} : fd (bk C g (len C)) key = fd C key := by
 unfold fd;rw [BT];refine CE fun j _ hj => ?_
 show D.strEq (cl (bk C g (len C)) j 0) key = D.strEq (cl C j 0) key;rw [KD (by omega)]
 rfl
theorem UC {C : D} {g : Nat → Int} {n i : Nat} {x : Int} (h : i < n) : upd (bk C g n) i 2 (.int x) = bk C (fun j => if j = i then x else g j) n := by
 show D.slc (decide (n = 0)) (List.modify (bkR C g n) i _) = .slc (decide (n = 0)) (bkR C _ n)
 congr 1
 refine List.ext_getElem (by simp [bkR]) fun j h1 h2 => ?_
 rw [List.getElem_modify];simp only [Wi];by_cases q : i = j
 ·rw [if_pos q, if_pos q.symm];rfl
 ·rw [if_neg q, if_neg (fun c : j = i => q c.symm)]
theorem F4 {C : D} {g g' : Nat → Int} {n : Nat} (h : ∀ j, j < n → g j = g' j) : bk C g n = bk C g' n := by
 unfold bk bkR
 congr 1
 refine List.map_congr_left fun j hj => ?_
 rw [h j (List.mem_range.1 hj)]
section
variable [Ap]
variable {S C T v0 : D}
theorem Ny {l : D} {b : Bool} (hn : len l < 4611686018427387904) (k : D) : Dn l (.bool b) k = .row [.int 1, .int (fd l k)] := (eo ..).trans (De (F := fun i => Rp l (.bool b) (.int i) k) hn fun i => ZX ..)
theorem X8 (hR : Rk S C T) : Vm C = .row [.int 2, bk C (fun _ => 0) (len C), .bool (decide (len C = 0))] := by
 have hc := hR.c1;rw [bO, ifF (by omega)]
 have L := Ek (F := fun i => IW C (.int (i : Nat)) (bk C (fun _ => 0) i) (.bool (decide (i = 0)))) (n := len C) (bad := fun _ => false) (B := fun _ => .row []) (fun i hi => by
  show IW C (.int (i : Nat)) (bk C (fun _ => 0) i) (.bool (decide (i = 0))) = IW C (.int (i + 1 : Nat)) (bk C (fun _ => 0) (i + 1)) (.bool (decide (i + 1 = 0)))
  have l := hR.lim i hi;obtain ⟨m, hm⟩ := hR.cI i hi
  have hf : fd (bk C (fun _ => 0) i) (cl C i 0) < 0 := by
   have : fd (bk C (fun _ => 0) i) (cl C i 0) = -1 := by
    unfold fd;rw [BT];refine BI fun j _ hj => ?_
    rw [KD (by omega)]
    have n := DJ (p := fun j => D.strEq (cl C j 0) (cl C i 0)) (k := len C) (i := 0) (j := j) (by omega) (.inl (by have := hR.cid i hi; unfold fd at this; omega))
    exact n
   omega
  rw [Xg, ifT (by omega), ifF (by omega), hR.cne i hi, cond_false, ifF (by omega), ifF (by omega), Ny (by rw [BT]; omega)]
  dsimp +instances only [As, Au, Ah];rw [ifT rfl, ifT hf, BT, ifT (by omega), AZ (by omega), dZ (g := fun _ => 0) rfl hm, decide_eq_false (by omega)])
 refine (show IW C (.int 0) A3 (.bool true) = _ from L).trans ?_
 show cond _ (IW C (.int (len C : Nat)) (bk C (fun _ => 0) (len C)) (.bool (decide (len C = 0)))) _ = _
 rw [BI (fun _ _ _ => rfl), ifT (by omega), Xg, ifF (by omega)]
theorem J3 (hR : Rk S C T) {k : Key} (hk : KOk S C k) {vals : D} {b : Bool} (hl : len vals = len C) (hv : ∀ j : Nat, j < len C → cl vals j 0 = .int (kc k j)) : Fi (.bool true) (bk C (fun _ => 0) (len C)) (.bool b) vals = .row [.int 1, .int 0, bk C (kc k) (len C)] := by
 have hc := hR.c1;rw [Z9, cond_true, BT, ifT (by omega)]
 have L := Ek (F := fun i => Je vals (.int (i : Nat)) (.bool true) (bk C (fun _ => 0) (len C)) (.bool b)) (n := len C) (bad := fun _ => false) (B := fun _ => .row []) (fun i hi => by
  show Je vals (.int (i : Nat)) (.bool true) (bk C (fun _ => 0) (len C)) (.bool b) = Je vals (.int (i + 1 : Nat)) (.bool true) (bk C (fun _ => 0) (len C)) (.bool b)
  have q := hk.v0 i hi;rw [XC, ifT (by omega), ifF (by omega), hv i hi, Ah, ifF (by omega), BT, ifT (by omega), KD hi]
  show cond (decide ((cl C i 1).toInt < _)) _ _ = _;rw [ifF (by omega), AZ (by omega)])
 refine (show Je vals (.int 0) (.bool true) (bk C (fun _ => 0) (len C)) (.bool b) = _ from L).trans ?_
 show cond _ (Je vals (.int (len C : Nat)) (.bool true) (bk C (fun _ => 0) (len C)) (.bool b)) _ = _
 rw [BI (fun _ _ _ => rfl), ifT (by omega), XC, ifF (by omega), hl]
 have L := Ek (F := fun i => IS vals (.int (len C : Nat)) (.int (i : Nat)) (.bool true) (bk C (fun j => if j < i then kc k j else 0) (len C)) (.bool b)) (n := len C) (bad := fun _ => false) (B := fun _ => .row []) (fun i hi => by
  show IS vals (.int (len C : Nat)) (.int (i : Nat)) (.bool true) (bk C (fun j => if j < i then kc k j else 0) (len C)) (.bool b) = IS vals (.int (len C : Nat)) (.int (i + 1 : Nat)) (.bool true) (bk C (fun j => if j < i + 1 then kc k j else 0) (len C)) (.bool b)
  rw [XV, ifT (by omega), ifF (by omega), ifT (by omega), BT, ifT (by omega), hv i hi, UC hi, AZ (by omega)]
  congr 1
  refine F4 fun j hj => ?_
  by_cases c : j = i
  ·rw [if_pos c, if_pos (by omega), c]
  ·rw [if_neg c];by_cases d : j < i
   ·rw [if_pos d, if_pos (by omega)]
   ·rw [if_neg d, if_neg (by omega)])
 refine ((by
  have e : bk C (fun j => if j < 0 then kc k j else 0) (len C) = bk C (fun _ => 0) (len C) := F4 fun j _ => if_neg (by omega)
  rw [← e];exact L) : IS vals (.int (len C : Nat)) (.int 0) (.bool true) (bk C (fun _ => 0) (len C)) (.bool b) = cond (decide (fdG (fun _ => false) (len C) 0 < 0)) (IS vals (.int (len C : Nat)) (.int (len C : Nat)) (.bool true) (bk C (fun j => if j < len C then kc k j else 0) (len C)) (.bool b)) (.row [])).trans ?_
 rw [BI (fun _ _ _ => rfl), ifT (by omega), XV, ifF (by omega), F4 (g' := kc k) fun j hj => if_pos hj]
theorem Vn (hR : Rk S C T) {k : Key} (hk : KOk S C k) : II (.int k.1) (.int k.2.1) (.int k.2.2.1) (.int k.2.2.2.1) (.int k.2.2.2.2) v0 S C T = .row [.int 2, .int (len C : Nat), .bool (decide (len C = 0)), bk C (kc k) (len C)] := by
 have hc := hR.c1;rw [eL (h0 := rfl)];simp only [X8 hR, As, Au, Ah, Int.reduceEq, decide_false, decide_true, cond_true, cond_false, BT];by_cases n0 : (len C : Int) = 0
 ·rw [ifT n0, J3 hR hk (by rw [Bv]; omega) (fun j hj => by omega)]
  rfl
 rw [ifF n0];by_cases n1 : (len C : Int) = 1
 ·rw [ifT n1, J3 hR hk (by rw [Bw, Bv]; omega) (fun j hj => by
   match j with
   | 0 => rfl
   | j + 1 => omega)]
  rfl
 rw [ifF n1];by_cases n2 : (len C : Int) = 2
 ·rw [ifT n2, J3 hR hk (by rw [Bw, Bw, Bv]; omega) (fun j hj => by
   match j with
   | 0 => rfl
   | 1 => rfl
   | j + 2 => omega)]
  rfl
 rw [ifF n2];by_cases n3 : (len C : Int) = 3
 ·rw [ifT n3, J3 hR hk (by rw [Bw, Bw, Bw, Bv]; omega) (fun j hj => by
   match j with
   | 0 => rfl
   | 1 => rfl
   | 2 => rfl
   | j + 3 => omega)]
  rfl
 rw [ifF n3];have n4 : (len C : Int) = 4 := by omega
 rw [ifT n4, J3 hR hk (by rw [Bw, Bw, Bw, Bw, Bv]; omega) (fun j hj => by
   match j with
   | 0 => rfl
   | 1 => rfl
   | 2 => rfl
   | 3 => rfl
   | j + 4 => omega)]
 rfl
theorem YE (hR : Rk S C T) {g : Nat → Int} {b : Bool} {key : D} (h : 0 ≤ fd C key) : HL (.bool true) (bk C g (len C)) (.bool b) key = .row [.int 1, .int (g (fd C key).toNat), .int 0] := by
 have hc := hR.c1;have lt := C2 (l := C) (key := key);rw [bK, cond_true, Ny (by rw [BT]; omega), UO]
 dsimp +instances only [As, Au, Ah];rw [ifT rfl, ifF (by omega), BT, ifT (by omega)]
 have e : fd C key = ((fd C key).toNat : Nat) := by omega
 have q := KD (C := C) (g := g) (i := len C) (j := (fd C key).toNat) (c := 2) (by omega)
 rw [← e] at q;rw [q];rfl
def al (C T : D) (k : Key) (s : Nat) : Bool := decide (fd C (cl T s 5) < 0) || (!decide (kc k (fd C (cl T s 5)).toNat < (cl T s 6).toInt) && !decide ((cl T s 7).toInt < kc k (fd C (cl T s 5)).toNat))
theorem T1 (hR : Rk S C T) {k : Key} (hk : KOk S C k) {b : Bool} {s : Nat} (hs : s < len T) : Ka (.bool true) (bk C (kc k) (len C)) (.bool b) (cl T s 0) (cl T s 1) (cl T s 2) (cl T s 3) (cl T s 4) (cl T s 5) (cl T s 6) (cl T s 7) (cl T s 8) = .row [.int 1, .bool (al C T k s), .int 0] := by
 have hc := hR.c1;obtain ⟨⟨n2, h2⟩, ⟨n6, h6⟩, ⟨n7, h7⟩, ⟨n8, h8⟩, _⟩ := hR.tI s hs;have ct := hR.ctr s hs;rw [h6, h7, h8] at ct;rw [h2, h6, h7, h8, gq, cond_true];simp only [Ah] at ct ⊢;rcases ct with ⟨z, q⟩ | ⟨z, q1, q2, q3, q4, q5, q6, q7, q8⟩
 ·rw [z, cond_true];unfold al;rw [q];rfl
 ·have lt := C2 (l := C) (key := cl T s 5);have e : fd C (cl T s 5) = ((fd C (cl T s 5)).toNat : Nat) := by omega
  have kv := hk.v0 (fd C (cl T s 5)).toNat (by omega)
  rw [← e] at kv;rw [z, cond_false];have lim := hR.lim (fd C (cl T s 5)).toNat (by omega)
  rw [← e] at lim;simp only [YE hR q1, Ny (l := bk C (kc k) (len C)) (by rw [BT]; omega), UO, As, Au, Ah, decide_true, cond_true, BT]
  have cq := KD (C := C) (g := kc k) (i := len C) (j := (fd C (cl T s 5)).toNat) (c := 1) (by omega)
  rw [← e] at cq;rw [cq];show cond (decide (fd C (cl T s 5) < 0)) _ _ = _;rw [ifF (by omega), ifT (by omega)]
  have A : al C T k s = (!decide (kc k (fd C (cl T s 5)).toNat < n6) && !decide (n7 < kc k (fd C (cl T s 5)).toNat)) := by
   unfold al;rw [h6, h7, decide_eq_false (show ¬ fd C (cl T s 5) < 0 by omega), Bool.false_or]
   rfl
  rw [A];by_cases a1 : kc k (fd C (cl T s 5)).toNat < n6
  ·rw [ifT (by exact a1), decide_eq_true a1]
   rfl
  rw [ifF (by exact a1), decide_eq_false a1]
  by_cases a2 : n7 < kc k (fd C (cl T s 5)).toNat
  ·rw [ifT (by exact a2), decide_eq_true a2]
   rfl
  rw [ifF (by exact a2), decide_eq_false a2, BD (by omega) (by omega), ifF (by omega)]
  show D.row [.int 1, .bool (!decide (IntKind.wrap .i64 ((cl C (fd C (cl T s 5)) 1).toInt - kc k (fd C (cl T s 5)).toNat) < n8)), .int 0] = _;rw [BD (by omega) (by omega), decide_eq_false (by omega)]
  rfl
end
end Ci
namespace Ci
open Go Go.AE
def Dm (l : List Nat) : D := .slc l.isEmpty (l.map fun s => .row [.int (s : Nat)])
theorem DU {l : List Nat} : len (Dm l) = l.length := by unfold Dm len; simp [D.rows]
theorem VY {l : List Nat} {s : Nat} : ad (Dm l) (.row [.int s]) = Dm (l ++ [s]) := by
 unfold Dm ad;simp [D.rows]
theorem HE {l : List Nat} {j s : Nat} (h : l[j]? = some s) : cl (Dm l) j 0 = .int s := by
 show (((l.map fun (s : Nat) => D.row [.int s])[j]?).getD default).cells.getD 0 default = _
 rw [List.getElem?_map, h];rfl
theorem Pr {F : List Nat → Nat → D} {p : Nat → Bool} {n : Nat} : ∀ {k i : Nat} {acc : List Nat}, i + k = n → acc.length ≤ i → (∀ (acc : List Nat) (j : Nat), j < n → acc.length ≤ j → F acc j = cond (p j) (F (acc ++ [j]) (j + 1)) (F acc (j + 1))) → F acc i = F (acc ++ (List.range' i k).filter p) n
 | 0, i, acc => fun h _ _ => by
  have : i = n := by omega
  subst this;simp
 | k + 1, i, acc => fun h ha hs => by
  rw [hs acc i (by omega) ha, List.range'_succ]
  cases q : p i
  ·rw [cond_false, Pr (k := k) (i := i + 1) (by omega) (by omega) hs, List.filter_cons_of_neg (by simp [q])]
  ·rw [cond_true, Pr (k := k) (i := i + 1) (by omega) (by simp; omega) hs, List.filter_cons_of_pos (by simp [q]), List.append_assoc]
   rfl
def enl (S C T : D) (k : Key) : List Nat := (List.range' 0 (len T)).filter (en S C T k)
theorem Jz {S C T : D} {k : Key} {s : Nat} (h : s ∈ enl S C T k) : s < len T ∧ en S C T k s = true := by
 have := List.mem_filter.1 h;have m := List.mem_range'.1 this.1;exact ⟨by omega, this.2⟩
theorem Hz {S C T : D} {k : Key} : (enl S C T k).length ≤ len T := by
 have := List.length_filter_le (en S C T k) (List.range' 0 (len T));unfold enl;simpa using this
section
variable [Ap]
variable {S C T v0 : D}
theorem Qd (hR : Rk S C T) {k : Key} (hk : KOk S C k) : Jj (.int k.1) (.int k.2.1) (.int k.2.2.1) (.int k.2.2.2.1) (.int k.2.2.2.2) v0 S C T = .row [.int 1, Dm (enl S C T k), .bool (enl S C T k).isEmpty] := by
 have hc := hR.c1;have ht := hR.t1;have h0 := hk.s0;have h1 := hk.s1;rw [fk, Vn hR hk];dsimp +instances only [As, Au, Ah];rw [ifF (by omega), ifT (by rfl)]
 have G := Pr (F := fun acc i => FA (Dm acc) (.bool acc.isEmpty) T (.int (i : Nat)) (.int k.1) (.int k.2.1) (.int k.2.2.1) (.int k.2.2.2.1) (.int k.2.2.2.2) v0 S C (.int (len C : Nat)) (.bool (decide (len C = 0))) (bk C (kc k) (len C))) (p := en S C T k) (n := len T) (k := len T) (i := 0) (acc := []) (by omega) (Nat.le_refl _) (fun acc j hj ha => by
  show FA (Dm acc) (.bool acc.isEmpty) T (.int (j : Nat)) (.int k.1) (.int k.2.1) (.int k.2.2.1) (.int k.2.2.2.1) (.int k.2.2.2.2) v0 S C (.int (len C : Nat)) (.bool (decide (len C = 0))) (bk C (kc k) (len C)) =
   cond (en S C T k j) (FA (Dm (acc ++ [j])) (.bool (acc ++ [j]).isEmpty) T (.int (j + 1 : Nat)) (.int k.1) (.int k.2.1) (.int k.2.2.1) (.int k.2.2.2.1) (.int k.2.2.2.2) v0 S C (.int (len C : Nat)) (.bool (decide (len C = 0))) (bk C (kc k) (len C)))
    (FA (Dm acc) (.bool acc.isEmpty) T (.int (j + 1 : Nat)) (.int k.1) (.int k.2.1) (.int k.2.2.1) (.int k.2.2.2.1) (.int k.2.2.2.2) v0 S C (.int (len C : Nat)) (.bool (decide (len C = 0))) (bk C (kc k) (len C)))
  rw [XW (h0 := rfl), ifT (by omega), ifF (by omega), BT, ifT (by rfl), T1 hR hk hj]
  dsimp +instances only [As, Au, Ah, Ai];rw [ifT (by rfl), ifF (by omega), ifT (by omega), AZ (by omega), DU, ifT (by omega), VY]
  have e : en S C T k j = (D.strEq (cl T j 0) (cl S k.1 0) && al C T k j) := rfl;rw [e];have e2 : (acc ++ [j]).isEmpty = false := by simp
  rw [e2];cases al C T k j <;> cases D.strEq (cl T j 0) (cl S k.1 0) <;> rfl)
 have G : FA A3 (.bool true) T (.int 0) (.int k.1) (.int k.2.1) (.int k.2.2.1) (.int k.2.2.2.1) (.int k.2.2.2.2) v0 S C (.int (len C : Nat)) (.bool (decide (len C = 0))) (bk C (kc k) (len C)) = FA (Dm (enl S C T k)) (.bool (enl S C T k).isEmpty) T (.int (len T : Nat)) (.int k.1) (.int k.2.1) (.int k.2.2.1) (.int k.2.2.2.1) (.int k.2.2.2.2) v0 S C (.int (len C : Nat)) (.bool (decide (len C = 0))) (bk C (kc k) (len C)) := G;rw [G, XW (h0 := rfl), ifF (by omega)]
structure Cf (S C : D) (k : Key) (t x : D) : Prop where
 t : D.strEq (cl S k.1 0) t = true
 l : len x = len C
 v : ∀ j : Nat, j < len C → (cl x j 0).toInt = kc k j
 w : Wd x 1
end
end Ci
namespace Ci
open Go Go.AE
theorem Ow {ks : List Kd} {k : List D} : ∀ (rs l : List D), DK ks k rs l.length = fdG (fun i => BU ks (((l ++ rs).getD i default).cells) k) rs.length l.length
 | [], l => rfl
 | r :: rs, l => by
  rw [DK, List.length_cons, fdG];have e : ((l ++ r :: rs).getD l.length default) = r := by simp
  have i2 := Ow (ks := ks) (k := k) rs (l ++ [r]);rw [List.length_append, List.append_assoc] at i2;have i2 : DK ks k rs (l.length + 1) = fdG (fun i => BU ks (((l ++ r :: rs).getD i default).cells) k) rs.length (l.length + 1) := i2
  rw [e, i2];cases BU ks r.cells k <;> rfl
theorem QW {ks : List Kd} {a k : D} : mIx ks a k = fdG (fun i => BU ks ((a.rows.getD i default).cells) k.cells) (len a) 0 := Ow (ks := ks) (k := k.cells) a.rows []
abbrev K5 : List Kd := [.int .i64, .int .i64, .int .i64, .int .i64, .int .i64]
def Ft (k : Key) : List D := [.int k.1, .int k.2.1, .int k.2.2.1, .int k.2.2.2.1, .int k.2.2.2.2]
def Bk (ks : List Key) : D := .slc ks.isEmpty (ks.map fun k => .row (Ft k))
def Ce (ks : List Key) : D := .slc false (ks.map fun k => .row (Ft k ++ [.bool true]))
theorem EQ {ks : List Key} : len (Bk ks) = ks.length := by unfold Bk len; simp [D.rows]
theorem R9 {ks : List Key} : len (Ce ks) = ks.length := by unfold Ce len; simp [D.rows]
theorem Bm {ks : List Key} {j c : Nat} {k : Key} (h : ks[j]? = some k) : cl (Bk ks) j c = (Ft k).getD c default := by
 show (((ks.map fun k => D.row (Ft k))[j]?).getD default).cells.getD c default = _
 rw [List.getElem?_map, h];rfl
theorem VM {a b : Key} {l : List D} : BU K5 (Ft a ++ l) (Ft b) = decide (a = b) := by
 obtain ⟨a1, a2, a3, a4, a5⟩ := a;obtain ⟨b1, b2, b3, b4, b5⟩ := b;simp only [K5, Ft, List.cons_append, List.nil_append, BU, Ah, Bool.and_true];rw [Bool.eq_iff_iff];simp
theorem Sq {ks : List Key} {k : Key} : mIx K5 (Ce ks) (.row (Ft k)) = fdG (fun i => decide (ks[i]? = some k)) ks.length 0 := by
 rw [QW, R9];refine CE fun j _ hj => ?_
 show BU K5 ((((ks.map fun k => D.row (Ft k ++ [.bool true]))[j]?).getD default).cells) (Ft k) = _
 have hj' : j < ks.length := by omega
 rw [List.getElem?_map, List.getElem?_eq_getElem hj'];show BU K5 (Ft ks[j] ++ [.bool true]) (Ft k) = _;rw [VM];simp
def GZ (ks : List Key) (k : Key) : List Key := if k ∈ ks then ks else ks ++ [k]
theorem U8 {ks : List Key} {k : Key} : (GZ ks k).length ≤ ks.length + 1 := by
 unfold GZ;split
 ·omega
 ·simp
theorem Wr {ks : List Key} {k : Key} : ks.length ≤ (GZ ks k).length := by
 unfold GZ;split
 ·omega
 ·simp
def C1 (S C T : D) (k : Key) (ks : List Key) (l : List Nat) : List Key := l.foldl (fun ks s => GZ ks (nx S C T k s)) ks
theorem JS {S C T : D} {k : Key} : ∀ {l : List Nat} {ks : List Key}, (C1 S C T k ks l).length ≤ ks.length + l.length
 | [], ks => by simp [C1]
 | s :: l, ks => by
  have := JS (S := S) (C := C) (T := T) (k := k) (l := l) (ks := GZ ks (nx S C T k s));have := U8 (ks := ks) (k := nx S C T k s);simp only [C1, List.foldl_cons, List.length_cons] at *;omega
theorem Rg {S C T : D} {k : Key} : ∀ {l : List Nat} {ks : List Key}, ks.length ≤ (C1 S C T k ks l).length
 | [], ks => by simp [C1]
 | s :: l, ks => by
  have := Rg (S := S) (C := C) (T := T) (k := k) (l := l) (ks := GZ ks (nx S C T k s));have := Wr (ks := ks) (k := nx S C T k s);simp only [C1, List.foldl_cons] at *;omega
theorem SY {S C T : D} {k : Key} {l : List Nat} {ks : List Key} {s : Nat} : C1 S C T k ks (l ++ [s]) = GZ (C1 S C T k ks l) (nx S C T k s) := by
 simp [C1]
def Eg (g : Nat → Int) (i : Nat) : D := .slc (decide (i = 0)) ((List.range i).map fun (j : Nat) => .row [.int (g j)])
theorem K8 {g : Nat → Int} {i : Nat} : len (Eg g i) = i := by unfold Eg len; simp [D.rows]
theorem HV {g : Nat → Int} {i j : Nat} (h : j < i) : cl (Eg g i) j 0 = .int (g j) := by
 show ((((List.range i).map fun (j : Nat) => D.row [.int (g j)])[j]?).getD default).cells.getD 0 default = _
 rw [List.getElem?_map, List.getElem?_range h];rfl
theorem Wl {g : Nat → Int} {i : Nat} : ad (Eg g i) (.row [.int (g i)]) = Eg g (i + 1) := by
 show D.slc false (_ ++ _) = D.slc (decide (i + 1 = 0)) _;rw [List.range_succ, List.map_append, decide_eq_false (by omega)]
 rfl
section
variable [Ap]
variable {S C T v0 : D}
theorem UB {ks : List Key} {k : Key} (hl : ks.length < 1048576) : DO (Bk ks) (.bool ks.isEmpty) (Ce ks) (.int k.1) (.int k.2.1) (.int k.2.2.1) (.int k.2.2.2.1) (.int k.2.2.2.2) = .row [.int 1, Bk (GZ ks k), .bool (GZ ks k).isEmpty, Ce (GZ ks k)] := by
 rw [eF];have e : D.row [.int k.1, .int k.2.1, .int k.2.2.1, .int k.2.2.2.1, .int k.2.2.2.2] = .row (Ft k) := rfl;rw [e, Sq, EQ];by_cases c : k ∈ ks
 ·obtain ⟨j, hj, hjk⟩ := List.getElem_of_mem c;have q := Iz (p := fun i => decide (ks[i]? = some k)) (k := ks.length) (i := 0) (j := j) (by omega) (by omega) (decide_eq_true (by rw [List.getElem?_eq_getElem hj, hjk]))
  have lt := E9 (p := fun i => decide (ks[i]? = some k)) (k := ks.length) (i := 0)
  have ea : GZ ks k = ks := if_pos c;rw [ifF (by omega), ea]
  have cb : ∀ i : Int, 0 ≤ i → i < ks.length → cl (Ce ks) i 5 = .bool true := fun i h0 h1 => by
   show (((ks.map fun k => D.row (Ft k ++ [.bool true]))[i.toNat]?).getD default).cells.getD 5 default = _
   rw [List.getElem?_map, List.getElem?_eq_getElem (by omega)]
   rfl
  rw [cb _ q.1 (by omega)]
  rfl
 ·have q : fdG (fun i => decide (ks[i]? = some k)) ks.length 0 = -1 := BI fun j _ hj => decide_eq_false fun h => c (List.mem_of_getElem? h)
  have ea : GZ ks k = ks ++ [k] := if_neg c;rw [ifT (by omega), ifT (by omega), ea]
  have e1 : ad (Bk ks) (.row (Ft k)) = Bk (ks ++ [k]) := by
   unfold Bk ad;simp [D.rows]
  have e2 : ad (Ce ks) (.row [.int k.1, .int k.2.1, .int k.2.2.1, .int k.2.2.2.1, .int k.2.2.2.2, .bool true]) = Ce (ks ++ [k]) := by
   unfold Ce ad;simp [D.rows, Ft]
  rw [e1, e2];simp
theorem Zp (hR : Rk S C T) {k : Key} (hk : KOk S C k) {b : Bool} {s : Nat} (hs : s < len T) (he : en S C T k s = true) : UU (.bool true) (bk C (kc k) (len C)) (.bool b) (cl T s 0) (cl T s 1) (cl T s 2) (cl T s 3) (cl T s 4) (cl T s 5) (cl T s 6) (cl T s 7) (cl T s 8) = .row [.int 1, .int 0, bk C (nv C T k s) (len C)] := by
 have hc := hR.c1;obtain ⟨⟨n2, h2⟩, ⟨n6, h6⟩, ⟨n7, h7⟩, ⟨n8, h8⟩, _⟩ := hR.tI s hs;have ct := hR.ctr s hs;have A := T1 hR hk (b := b) hs
 have ea : al C T k s = true := by
  unfold en at he;simp only [Bool.and_eq_true] at he;exact he.2
 rw [ea] at A;have kn := hk.v0;have hk2 := NR hR hk hs he;rw [h2, h6, h7, h8] at A;rw [h2, h6, h7, h8, fx, A];dsimp +instances only [As, Au, Ah, Ai];rw [ifT (by rfl), ifT (by rfl), cond_true]
 rcases ct with ⟨z, q⟩ | ⟨z, q1, _⟩
 ·rw [z, cond_true]
  have : bk C (kc k) (len C) = bk C (nv C T k s) (len C) := F4 fun j _ => by
   unfold nv;rw [if_neg (by omega)]
  rw [this]
 ·have lt := C2 (l := C) (key := cl T s 5);rw [z, cond_false, Ny (by rw [BT]; omega), UO]
  dsimp +instances only [As, Au, Ah, Ai];rw [ifT (by rfl), ifF (by omega), BT, ifT (by omega)]
  have e : fd C (cl T s 5) = ((fd C (cl T s 5)).toNat : Nat) := by omega
  have cq := KD (C := C) (g := kc k) (i := len C) (j := (fd C (cl T s 5)).toNat) (c := 2) (by omega)
  rw [← e] at cq;rw [cq];have u := UC (C := C) (g := kc k) (n := len C) (i := (fd C (cl T s 5)).toNat) (x := IntKind.wrap .i64 (kc k (fd C (cl T s 5)).toNat + n8)) (by omega)
  rw [← e] at u;refine (congrArg (fun x => D.row [.int 1, .int 0, x]) u).trans ?_
  show D.row [.int 1, .int 0, _] = D.row [.int 1, .int 0, _]
  have : (bk C (fun j => if j = (fd C (cl T s 5)).toNat then IntKind.wrap .i64 (kc k (fd C (cl T s 5)).toNat + n8) else kc k j) (len C)) = bk C (nv C T k s) (len C) := F4 fun j hj => by
   unfold nv;by_cases c : j = (fd C (cl T s 5)).toNat
   ·have v := hk2.v0 j hj;rw [QX (by omega)] at v
    have l := hR.lim j hj;unfold nv at v;rw [if_pos (by omega), h8, Ah] at v
    rw [if_pos c, if_pos (by omega), h8, Ah, ← c, BD (by omega) (by omega)]
   ·rw [if_neg c, if_neg (by omega)]
  rw [this]
theorem YZ {g : Nat → Int} {n : Nat} (hn : n ≤ 4) : Hn A3 (.bool true) (ct Aw (bk C g n)) (.bool false) = .row [.int 1, Eg g n, .bool (decide (n = 0))] := by
 have ec : ∀ j : Nat, j < n → cl (ct Aw (bk C g n)) j 2 = .int (g j) := fun j hj => KD (C := C) (g := g) (i := n) (j := j) (c := 2) hj
 have el : len (ct Aw (bk C g n)) = n := BT;rw [f8]
 have L := Ek (F := fun i => IY (ct Aw (bk C g n)) (.bool false) (.int (i : Nat)) (Eg g i) (.bool (decide (i = 0)))) (n := n) (bad := fun _ => false) (B := fun _ => .row []) (fun i hi => by
  show IY (ct Aw (bk C g n)) (.bool false) (.int (i : Nat)) (Eg g i) (.bool (decide (i = 0))) = IY (ct Aw (bk C g n)) (.bool false) (.int (i + 1 : Nat)) (Eg g (i + 1)) (.bool (decide (i + 1 = 0)));rw [Xz, el, ifT (by omega), ifF (by omega), K8, ifT (by omega), ec i hi, Wl, AZ (by omega), decide_eq_false (show ¬ i + 1 = 0 by omega)])
 refine (show IY (ct Aw (bk C g n)) (.bool false) (.int 0) A3 (.bool true) = cond _ (IY (ct Aw (bk C g n)) (.bool false) (.int (n : Nat)) (Eg g n) (.bool (decide (n = 0)))) _ from L).trans ?_
 rw [BI (fun _ _ _ => rfl), ifT (by omega), Xz, el, ifF (by omega)]
end
end Ci
namespace Ci
open Go Go.AE
section
variable [Ap]
variable {S C T v0 : D}
theorem TM (hR : Rk S C T) {k : Key} (hk : KOk S C k) {s : Nat} (hs : s < len T) (he : en S C T k s = true) : GA (.int k.1) (.int k.2.1) (.int k.2.2.1) (.int k.2.2.2.1) (.int k.2.2.2.2) v0 S C T (.int (s : Nat)) = .row (.int 1 :: Ft (nx S C T k s)) := by
 have hc := hR.c1;have hs1 := hR.s1;have nk := (NR hR hk hs he).v1;have F20 := Zp hR hk (b := decide (len C = 0)) hs he;have F21 := YZ (C := C) (g := nv C T k s) (n := len C) hc;have z : ∀ j : Nat, len C ≤ j → j < 4 → nv C T k s j = 0 := fun j h1 h2 => by rw [← QX h2]; exact nk j h1
 rw [eR (h0 := Vn hR hk) (h1 := F20) (h2 := F21), Nt (v0 := S) (by omega)]
 dsimp +instances only [As, Au, Ah, Ai];rw [Bool.false_and, F21];dsimp +instances only [As, Au, Ah, Ai];rw [ifF (by omega), ifT (by rfl), ifF (by omega), ifT (by omega), BT, BT, ifT (by rfl), ifT (by rfl), ifT (by rfl), K8]
 by_cases n0 : (len C : Int) = 0
 ·rw [cT (decide_eq_true (by omega))]
  show _ = D.row [.int 1, .int (fd S (cl T s 1)), .int (nv C T k s 0), .int (nv C T k s 1), .int (nv C T k s 2), .int (nv C T k s 3)];rw [z 0 (by omega) (by omega), z 1 (by omega) (by omega), z 2 (by omega) (by omega), z 3 (by omega) (by omega)]
 rw [cF (decide_eq_false (by omega)), ifT (by rfl), ifT (by omega), ifT (by rfl)]
 show _ = D.row [.int 1, .int (fd S (cl T s 1)), .int (nv C T k s 0), .int (nv C T k s 1), .int (nv C T k s 2), .int (nv C T k s 3)];have c0 := HV (g := nv C T k s) (i := len C) (j := 0);have c1 := HV (g := nv C T k s) (i := len C) (j := 1);have c2 := HV (g := nv C T k s) (i := len C) (j := 2);have c3 := HV (g := nv C T k s) (i := len C) (j := 3);by_cases n4 : (len C : Int) < 4;rotate_left
 ·rw [ifF n4, show cl (Eg (nv C T k s) (len C)) 0 0 = _ from c0 (by omega), show cl (Eg (nv C T k s) (len C)) 1 0 = _ from c1 (by omega), show cl (Eg (nv C T k s) (len C)) 2 0 = _ from c2 (by omega), show cl (Eg (nv C T k s) (len C)) 3 0 = _ from c3 (by omega)]
 rw [ifT n4, ifF n0];by_cases n1 : (len C : Int) = 1
 ·rw [ifT n1, show cl (Eg (nv C T k s) (len C)) 0 0 = _ from c0 (by omega), z 1 (by omega) (by omega), z 2 (by omega) (by omega), z 3 (by omega) (by omega)]
 rw [ifF n1];by_cases n2 : (len C : Int) = 2
 ·rw [ifT n2, show cl (Eg (nv C T k s) (len C)) 0 0 = _ from c0 (by omega), show cl (Eg (nv C T k s) (len C)) 1 0 = _ from c1 (by omega), z 2 (by omega) (by omega), z 3 (by omega) (by omega)]
 rw [ifF n2];have n3 : (len C : Int) = 3 := by omega
 rw [ifT n3, show cl (Eg (nv C T k s) (len C)) 0 0 = _ from c0 (by omega), show cl (Eg (nv C T k s) (len C)) 1 0 = _ from c1 (by omega), show cl (Eg (nv C T k s) (len C)) 2 0 = _ from c2 (by omega), z 3 (by omega) (by omega)]
theorem Y9 (hR : Rk S C T) {k : Key} (hk : KOk S C k) {ks : List Key} (hl : ks.length < 100000) : GG (.int k.1) (.int k.2.1) (.int k.2.2.1) (.int k.2.2.2.1) (.int k.2.2.2.2) (Bk ks) (.bool ks.isEmpty) (Ce ks) v0 S C T =
  .row [.int 1, Bk (C1 S C T k ks (enl S C T k)), .bool (C1 S C T k ks (enl S C T k)).isEmpty, Ce (C1 S C T k ks (enl S C T k))] := by
 have ht := hR.t1;have hle := Hz (S := S) (C := C) (T := T) (k := k);rw [dX, Qd hR hk];dsimp +instances only [As, Au, Ah, Ai];rw [ifT (by rfl), DU]
 have L := Ek (F := fun i => I9 (Dm (enl S C T k)) (.bool (enl S C T k).isEmpty) (.int ((enl S C T k).length : Nat)) (.int (i : Nat)) (Bk (C1 S C T k ks ((enl S C T k).take i))) (.bool (C1 S C T k ks ((enl S C T k).take i)).isEmpty) (Ce (C1 S C T k ks ((enl S C T k).take i))) v0 S C T (.int k.1) (.int k.2.1) (.int k.2.2.1) (.int k.2.2.2.1) (.int k.2.2.2.2)) (n := (enl S C T k).length) (bad := fun _ => false) (B := fun _ => .row []) (fun i hi => by
  show I9 (Dm (enl S C T k)) (.bool (enl S C T k).isEmpty) (.int ((enl S C T k).length : Nat)) (.int (i : Nat)) (Bk (C1 S C T k ks ((enl S C T k).take i))) (.bool (C1 S C T k ks ((enl S C T k).take i)).isEmpty) (Ce (C1 S C T k ks ((enl S C T k).take i))) v0 S C T (.int k.1) (.int k.2.1) (.int k.2.2.1) (.int k.2.2.2.1) (.int k.2.2.2.2) =
   I9 (Dm (enl S C T k)) (.bool (enl S C T k).isEmpty) (.int ((enl S C T k).length : Nat)) (.int (i + 1 : Nat)) (Bk (C1 S C T k ks ((enl S C T k).take (i + 1)))) (.bool (C1 S C T k ks ((enl S C T k).take (i + 1))).isEmpty) (Ce (C1 S C T k ks ((enl S C T k).take (i + 1)))) v0 S C T (.int k.1) (.int k.2.1) (.int k.2.2.1) (.int k.2.2.2.1) (.int k.2.2.2.2)
  have hg : (enl S C T k)[i]? = some ((enl S C T k)[i]) := List.getElem?_eq_getElem hi;have hm := Jz (List.getElem_mem hi);have hr := JS (S := S) (C := C) (T := T) (k := k) (l := (enl S C T k).take i) (ks := ks);have htk : ((enl S C T k).take i).length ≤ i := by simp; omega
  rw [List.take_add_one, hg, Option.toList_some, SY, XI (h0 := rfl), ifT (by omega), ifF (by omega), DU, ifT (by omega), HE hg, TM hR hk hm.1 hm.2]
  have e : D.row (.int 1 :: Ft (nx S C T k (enl S C T k)[i])) = .row [.int 1, .int (nx S C T k (enl S C T k)[i]).1, .int (nx S C T k (enl S C T k)[i]).2.1, .int (nx S C T k (enl S C T k)[i]).2.2.1, .int (nx S C T k (enl S C T k)[i]).2.2.2.1, .int (nx S C T k (enl S C T k)[i]).2.2.2.2] := rfl;rw [e];dsimp +instances only [As, Au, Ah, Ai];rw [UB (by omega)]
  dsimp +instances only [As, Au, Ah, Ai];rw [ifT (by rfl), ifT (by rfl), AZ (by omega)])
 refine (show I9 (Dm (enl S C T k)) (.bool (enl S C T k).isEmpty) (.int ((enl S C T k).length : Nat)) (.int 0) (Bk ks) (.bool ks.isEmpty) (Ce ks) v0 S C T (.int k.1) (.int k.2.1) (.int k.2.2.1) (.int k.2.2.2.1) (.int k.2.2.2.2) = cond _ (I9 (Dm (enl S C T k)) (.bool (enl S C T k).isEmpty) (.int ((enl S C T k).length : Nat)) (.int ((enl S C T k).length : Nat)) (Bk (C1 S C T k ks ((enl S C T k).take (enl S C T k).length))) (.bool (C1 S C T k ks ((enl S C T k).take (enl S C T k).length)).isEmpty) (Ce (C1 S C T k ks ((enl S C T k).take (enl S C T k).length))) v0 S C T (.int k.1) (.int k.2.1) (.int k.2.2.1) (.int k.2.2.2.1) (.int k.2.2.2.2)) _ from L).trans ?_
 rw [BI (fun _ _ _ => rfl), ifT (by omega), List.take_length, XI (h0 := rfl), ifF (by omega)]
def Fo (S C : D) (ks : List Key) : Prop := ∀ k ∈ ks, KOk S C k
theorem Rq (hR : Rk S C T) {k : Key} (hk : KOk S C k) : ∀ {l : List Nat} {ks : List Key}, (∀ s ∈ l, s < len T ∧ en S C T k s = true) → Fo S C ks → Fo S C (C1 S C T k ks l)
 | [], ks, _, h => by simpa [C1] using h
 | s :: l, ks, hl, h => by
  have hm := hl s (List.mem_cons_self ..)
  have := Rq hR hk (l := l) (ks := GZ ks (nx S C T k s)) (fun s hs => hl s (List.mem_cons_of_mem _ hs)) (by
   unfold GZ;split
   ·exact h
   ·intro x hx;rcases List.mem_append.1 hx with q | q
    ·exact h x q
    ·rw [List.mem_singleton.1 q];exact NR hR hk hm.1 hm.2)
  simpa [C1] using this
def PX (S C T : D) (ks : List Key) (k : Key) : List Key := C1 S C T k ks (enl S C T k)
theorem Rl (hR : Rk S C T) {k : Key} (hk : KOk S C k) {ks : List Key} (h : Fo S C ks) : Fo S C (PX S C T ks k) := Rq hR hk (fun s hs => Jz hs) h
def LC (S C T : D) : Nat → List Key → Nat → List Key
 | 0, ks, _ => ks
 | f + 1, ks, i => match ks[i]? with
  | some k => LC S C T f (PX S C T ks k) (i + 1)
  | none => ks
theorem Nx (hR : Rk S C T) : ∀ {f : Nat} {ks : List Key} {i : Nat}, Fo S C ks → Fo S C (LC S C T f ks i)
 | 0, ks, i, h => h
 | f + 1, ks, i, h => by
  rw [LC];split
  ·rename_i k hk;exact Nx hR (Rl hR (h k (List.mem_of_getElem? hk)) h)
  ·exact h
theorem NZ (hR : Rk S C T) {w : D} : ∀ {f i : Nat} {ks : List Key}, i + f = 2000 → ks.length ≤ 1 + 20 * i → ks ≠ [] → Fo S C ks → Oy (.int 2000) (.int (i : Nat)) w v0 S C T (Bk ks) (.bool ks.isEmpty) (Ce ks) = .row [.int 1, Bk (LC S C T f ks i), .bool (LC S C T f ks i).isEmpty, .bool (decide (2000 < ((LC S C T f ks i).length : Int)))]
 | 0, i, ks => fun h hl hn ho => by
  rw [Xv, EQ, LC];by_cases c : (i : Int) < (ks.length : Nat)
  ·rw [ifT c, ifF (by omega)]
  ·rw [ifF c]
 | f + 1, i, ks => fun h hl hn ho => by
  rw [Xv, EQ];by_cases c : (i : Int) < (ks.length : Nat)
  ·have c' : i < ks.length := by omega
   have hg : ks[i]? = some ks[i] := List.getElem?_eq_getElem c';have hk := ho _ (List.getElem_mem c');have e := Hz (S := S) (C := C) (T := T) (k := ks[i]);have r := JS (S := S) (C := C) (T := T) (k := ks[i]) (l := enl S C T ks[i]) (ks := ks);have r2 := Rg (S := S) (C := C) (T := T) (k := ks[i]) (l := enl S C T ks[i]) (ks := ks);have ht := hR.t1
   have ne : PX S C T ks ks[i] ≠ [] := fun q => by
    have : (PX S C T ks ks[i]).length = 0 := by rw [q]; rfl
    unfold PX at this;have : ks.length = 0 := by omega
    exact hn (List.length_eq_zero_iff.1 this)
   have ih := NZ hR (w := w) (f := f) (i := i + 1) (ks := PX S C T ks ks[i]) (by omega) (by unfold PX; omega) ne (Rl hR hk ho)
   rw [ifT c, ifT (by omega), ifF (by omega), Bm hg, Bm hg, Bm hg, Bm hg, Bm hg]
   show cond (decide ((sl (GG (.int ks[i].1) (.int ks[i].2.1) (.int ks[i].2.2.1) (.int ks[i].2.2.2.1) (.int ks[i].2.2.2.2) (Bk ks) (.bool ks.isEmpty) (Ce ks) v0 S C T) 0).toInt = 1)) (Oy (.int 2000) (.int (IntKind.wrap .i64 (i + 1))) w v0 S C T (sl (GG (.int ks[i].1) (.int ks[i].2.1) (.int ks[i].2.2.1) (.int ks[i].2.2.2.1) (.int ks[i].2.2.2.2) (Bk ks) (.bool ks.isEmpty) (Ce ks) v0 S C T) 1) (sl (GG (.int ks[i].1) (.int ks[i].2.1) (.int ks[i].2.2.1) (.int ks[i].2.2.2.1) (.int ks[i].2.2.2.2) (Bk ks) (.bool ks.isEmpty) (Ce ks) v0 S C T) 2) (sl (GG (.int ks[i].1) (.int ks[i].2.1) (.int ks[i].2.2.1) (.int ks[i].2.2.2.1) (.int ks[i].2.2.2.2) (Bk ks) (.bool ks.isEmpty) (Ce ks) v0 S C T) 3)) (.row []) = _;rw [Y9 hR hk (by omega)]
   dsimp +instances only [As, Au, Ah, Ai];rw [ifT (by rfl), AZ (by omega)]
   rw [LC, hg];exact ih
  ·rw [ifF c, LC, List.getElem?_eq_none (by omega)]
def Pp : Key := (0, 0, 0, 0, 0)
theorem M9 (hR : Rk S C T) : KOk S C Pp := by
 have h := hR.s0
 have z : ∀ j, kc Pp j = 0 := fun j => by
  match j with
  | 0 => rfl
  | 1 => rfl
  | 2 => rfl
  | 3 => rfl
  | j + 4 => rfl
 refine ⟨Int.le_refl _, by show (0 : Int) < _; omega, fun j hj => ?_, fun j _ => z j⟩
 rw [z];have := hR.lim j hj;omega
def Gw (S C T : D) : List Key := LC S C T 2000 [Pp] 0
theorem Yj (hR : Rk S C T) : Up (ad Aw (.row [.int 0, .int 0, .int 0, .int 0, .int 0])) (.bool false) (.int 2000) v0 S C T = .row [.int 1, Bk (Gw S C T), .bool (Gw S C T).isEmpty, .bool (decide (2000 < ((Gw S C T).length : Int)))] := by
 have A := UB (ks := []) (k := Pp) (by show (0 : Nat) < _; omega)
 have A : DO A3 (.bool true) Aw (.int 0) (.int 0) (.int 0) (.int 0) (.int 0) = .row [.int 1, Bk [Pp], .bool false, Ce [Pp]] := A;have l1 : len (ad Aw (.row [.int 0, .int 0, .int 0, .int 0, .int 0])) = 1 := rfl;rw [eI, XQ, l1, ifT (by omega), ifF (by omega)]
 show cond (decide ((sl (DO A3 (.bool true) Aw (.int 0) (.int 0) (.int 0) (.int 0) (.int 0)) 0).toInt = 1)) (QZ (.int 2000) (ad Aw (.row [.int 0, .int 0, .int 0, .int 0, .int 0])) (.bool false) (.int (IntKind.wrap .i64 (0 + 1))) v0 S C T (sl (DO A3 (.bool true) Aw (.int 0) (.int 0) (.int 0) (.int 0) (.int 0)) 1) (sl (DO A3 (.bool true) Aw (.int 0) (.int 0) (.int 0) (.int 0) (.int 0)) 2) (sl (DO A3 (.bool true) Aw (.int 0) (.int 0) (.int 0) (.int 0) (.int 0)) 3)) (.row []) = _;rw [A];dsimp +instances only [As, Au, Ah, Ai];rw [ifT (by rfl), BD (by omega) (by omega), XQ, l1, ifF (by omega)]
 exact NZ hR (f := 2000) (i := 0) (ks := [Pp]) (by omega) (by show 1 ≤ _; omega) (by simp) (fun k hk => by rw [List.mem_singleton.1 hk]; exact M9 hR)
end
end Ci
namespace Ci
open Go Go.AE
structure RL (S C : D) (ks : List Key) (d : D) : Prop where
 l : len d = ks.length
 c : ∀ (i : Nat) (k : Key), ks[i]? = some k → Cf S C k (cl d i 0) (cl d i 1)
theorem RL.ad {S C : D} {ks : List Key} {d t x : D} {k : Key} (h : RL S C ks d) (hx : Cf S C k t x) : RL S C (ks ++ [k]) (ad d (.row [t, x])) := by
 refine ⟨by rw [Bw, h.l]; simp, fun i k' hi => ?_⟩
 rw [XN (by omega), XN (by omega), h.l]
 by_cases c : i < ks.length
 ·rw [List.getElem?_append_left c] at hi;rw [if_neg (by omega), if_neg (by omega)]
  exact h.c i k' hi
 ·have hlt : i < (ks ++ [k]).length := by
   rcases Nat.lt_or_ge i (ks ++ [k]).length with q | q
   ·exact q
   ·rw [List.getElem?_eq_none q] at hi;cases hi
  simp at hlt;have : i = ks.length := by omega
  subst this;simp at hi;subst hi;rw [if_pos rfl, if_pos rfl];exact hx
theorem Cf.key {S C T : D} (hR : Rk S C T) {k k' : Key} {t x t' x' : D} (hk : KOk S C k) (hk' : KOk S C k') (h : Cf S C k t x) (h' : Cf S C k' t' x') : (D.strEq t t' = true ∧ ∀ j : Nat, j < len C → (cl x j 0).toInt = (cl x' j 0).toInt) ↔ k = k' := by
 have hc := hR.c1;constructor
 ·rintro ⟨e, v⟩
  have s0 := hk.s0;have s1 := hk.s1;have s0' := hk'.s0;have s1' := hk'.s1;refine V1 ?_ fun j hj => ?_
  ·have a := DC h.t e;have b : D.strEq (cl S k'.1 0) t' = true := h'.t;rw [AN] at b;have c := DC a b;have i1 := hR.sid k.1.toNat (by omega)
   have i2 := hR.sid k'.1.toNat (by omega)
   rw [show ((k.1.toNat : Nat) : Int) = k.1 by omega] at i1
   rw [show ((k'.1.toNat : Nat) : Int) = k'.1 by omega] at i2
   have : fd S (cl S k.1 0) = fd S (cl S k'.1 0) := by
    unfold fd;refine CE fun j _ _ => ?_
    show D.strEq (cl S j 0) (cl S k.1 0) = D.strEq (cl S j 0) (cl S k'.1 0);rw [AN, HC c, AN]
   omega
  ·by_cases c : j < len C
   ·have := v j c;rw [h.v j c, h'.v j c] at this;exact this
   ·rw [hk.v1 j (by omega), hk'.v1 j (by omega)]
 ·rintro rfl
  refine ⟨?_, fun j hj => by rw [h.v j hj, h'.v j hj]⟩
  have a := h.t;rw [AN] at a;exact DC a h'.t
section
variable [Ap]
variable {S C T v0 : D}
end
end Ci
namespace Ci
open Go Go.AE
section
variable [Ap]
variable {S C T v0 : D}
theorem Ul (hR : Rk S C T) {k : Key} (hk : KOk S C k) : ∃ x, Ji (.int k.1) (.int k.2.1) (.int k.2.2.1) (.int k.2.2.2.1) (.int k.2.2.2.2) v0 S C T = .row [.int 1, cl S k.1 0, x] ∧ Cf S C k (cl S k.1 0) x := by
 have hc := hR.c1;have s0 := hk.s0;have s1 := hk.s1;rw [eA, ifF (by omega), ifT (by omega)]
 by_cases n0 : (len C : Int) = 0
 ·rw [ifT n0];exact ⟨_, rfl, Bh, by rw [Bv]; omega, fun j hj => by omega, Ep⟩
 rw [ifF n0];by_cases n1 : (len C : Int) = 1
 ·rw [ifT n1];refine ⟨_, rfl, Bh, by rw [Bw, Bv]; omega, fun j hj => ?_, GD Ep rfl⟩
  match j with
  | 0 => rfl
  | j + 1 => omega
 rw [ifF n1];by_cases n2 : (len C : Int) = 2
 ·rw [ifT n2];refine ⟨_, rfl, Bh, by rw [Bw, Bw, Bv]; omega, fun j hj => ?_, GD (GD Ep rfl) rfl⟩
  match j with
  | 0 => rfl
  | 1 => rfl
  | j + 2 => omega
 rw [ifF n2];by_cases n3 : (len C : Int) = 3
 ·rw [ifT n3];refine ⟨_, rfl, Bh, by rw [Bw, Bw, Bw, Bv]; omega, fun j hj => ?_, GD (GD (GD Ep rfl) rfl) rfl⟩
  match j with
  | 0 => rfl
  | 1 => rfl
  | 2 => rfl
  | j + 3 => omega
 rw [ifF n3];have n4 : (len C : Int) = 4 := by omega
 rw [ifT n4];refine ⟨_, rfl, Bh, by rw [Bw, Bw, Bw, Bw, Bv]; omega, fun j hj => ?_, GD (GD (GD (GD Ep rfl) rfl) rfl) rfl⟩
 match j with
 | 0 => rfl
 | 1 => rfl
 | 2 => rfl
 | 3 => rfl
 | j + 4 => omega
end
end Ci
namespace Ci
open Go Go.AE
structure NL (ns : List Nat) (d : D) : Prop where
 l : len d = ns.length
 c : ∀ (m s : Nat), ns[m]? = some s → cl d m 0 = .int (s : Nat)
theorem VN {l : List Nat} : NL l (Dm l) := ⟨DU, fun m s h => HE h⟩
theorem V4 {l : List Nat} : Wd (Dm l) 1 := by
 intro r hr;unfold Dm at hr;simp only [D.rows, List.mem_map] at hr;obtain ⟨s, _, e⟩ := hr;subst e;exact ⟨_, rfl, rfl⟩
def kp (T : D) (r : Bool) (s : Nat) : Bool := decide ((cl T s 2).toInt = 2) == r
def prt (T : D) (L : List Nat) (r : Bool) : List Nat := L.filter (kp T r)
theorem MJ {T : D} {L : List Nat} {r : Bool} : (prt T L r).length ≤ L.length := List.length_filter_le _ _
theorem Gn {L pre rem : List Nat} {s : Nat} (e : L = pre ++ s :: rem) : L[pre.length]? = some s := by rw [e]; simp
section
variable [Ap]
variable {v0 S C T : D}
theorem J1 {L : List Nat} {b r : Bool} (hL : ∀ s ∈ L, s < len T) (hn : L.length < 1000) : ∀ (rem pre : List Nat) (d : D) (i : Nat), L = pre ++ rem → i = (prt T pre r).length → len d = L.length → Wd d 1 →
  (∀ m s : Nat, (prt T pre r)[m]? = some s → cl d m 0 = .int (s : Nat)) → (∀ m s : Nat, pre.length ≤ m → L[m]? = some s → cl d m 0 = .int (s : Nat)) →
  ∃ d', NL (prt T L r) d' ∧ Hv d (.bool b) (.int (i : Nat)) (.int (pre.length : Nat)) v0 S C T (.bool r) = .row [.int 1, d', .bool b]
 | [], pre, d, i => fun e hi hl hw h1 h2 => by
  simp only [List.append_nil] at e;subst e;have pl := MJ (T := T) (L := L) (r := r);have l1 : len (sb d 0 (i : Nat)) = i := by rw [O1 (by omega) (by omega)]; omega
  refine ⟨sb (sb d 0 (i : Nat)) 0 (i : Nat), ⟨by rw [O1 (by omega) (by omega)]; omega, fun m s hm => ?_⟩, ?_⟩
  ·have hm' : m < (prt T L r).length := by
    rcases Nat.lt_or_ge m (prt T L r).length with q | q
    ·exact q
    ·rw [List.getElem?_eq_none q] at hm; cases hm
   rw [TQ (by omega) (by omega), TQ (by omega) (by omega)]
   exact h1 m s hm
  ·rw [XK, hl, ifF (by omega), ifF (by omega), ifF (by omega), ifF (by omega), l1]
   cases decide (((L.length : Nat) : Int) = ((i : Nat) : Int)) <;> exact ifF (by omega)
 | s :: rem, pre, d, i => fun e hi hl hw h1 h2 => by
  have hg := Gn e;have hp : pre.length < L.length := by rw [e]; simp
  have hm := hL s (by rw [e]; simp)
  have hc := h2 pre.length s (Nat.le_refl _) hg;have e' : L = (pre ++ [s]) ++ rem := by rw [e]; simp
  have epl : (pre ++ [s]).length = pre.length + 1 := by simp
  have pl := MJ (T := T) (L := pre) (r := r)
  have skip : kp T r s = false → ∃ d', NL (prt T L r) d' ∧ Hv d (.bool b) (.int (i : Nat)) (.int ((pre.length + 1 : Nat))) v0 S C T (.bool r) = .row [.int 1, d', .bool b] := fun q => by
   have ep : prt T (pre ++ [s]) r = prt T pre r := by unfold prt; rw [List.filter_append, List.filter_cons_of_neg (by simp [q])]; simp
   have ih := J1 (b := b) hL hn rem (pre ++ [s]) d i e' (by rw [ep]; exact hi) hl hw (by rw [ep]; exact h1) (fun m s' hm' hs' => h2 m s' (by omega) hs')
   rw [epl] at ih;exact ih
  have keep : kp T r s = true → ∃ d', NL (prt T L r) d' ∧ Hv (upd d (i : Nat) 0 (.int (s : Nat))) (.bool b) (.int ((i + 1 : Nat))) (.int ((pre.length + 1 : Nat))) v0 S C T (.bool r) = .row [.int 1, d', .bool b] := fun q => by
   have ep : prt T (pre ++ [s]) r = prt T pre r ++ [s] := by unfold prt; rw [List.filter_append, List.filter_cons_of_pos (by simp [q])]; simp
   have ih := J1 (b := b) hL hn rem (pre ++ [s]) (upd d (i : Nat) 0 (.int (s : Nat))) (i + 1) e' (by rw [ep]; simp; exact hi) (by rw [VZ]; exact hl) (Zt hw) (fun m s' hs' => by
    rw [ep] at hs';rw [UK hw (by omega) (by omega) (by omega) (by omega)]
    by_cases c : m < (prt T pre r).length
    ·rw [List.getElem?_append_left c] at hs';rw [if_neg (by omega)]
     exact h1 m s' hs'
    ·have hlt : m < (prt T pre r ++ [s]).length := by
      rcases Nat.lt_or_ge m (prt T pre r ++ [s]).length with q | q
      ·exact q
      ·rw [List.getElem?_eq_none q] at hs'; cases hs'
     simp at hlt;have hmi : m = (prt T pre r).length := by omega
     rw [if_pos ⟨by omega, rfl⟩]
     rw [hmi] at hs';simp at hs';rw [hs']) (fun m s' hm' hs' => by
    rw [UK hw (by omega) (by omega) (by omega) (by omega), if_neg (by omega)]
    exact h2 m s' (by omega) hs')
   rw [epl] at ih;exact ih
  rw [XK, hl, ifT (by omega), ifF (by omega), hc, Ah, ifF (by omega), ifT (by omega), ifF (show ¬ ((i : Nat) : Int) < 0 by omega), ifT (show ((i : Nat) : Int) < (L.length : Nat) by omega), AZ (by omega), AZ (by omega)]
  by_cases q : (cl T s 2).toInt = 2
  ·rw [ifT q];have k1 : kp T r s = r := by unfold kp; rw [decide_eq_true q]; cases r <;> rfl
   cases r
   ·rw [cond_false]; exact skip k1
   ·rw [cond_true]; exact keep k1
  ·rw [ifF q];have k1 : kp T r s = !r := by unfold kp; rw [decide_eq_false q]; cases r <;> rfl
   cases r
   ·rw [cond_false]; exact keep k1
   ·rw [cond_true]; exact skip k1
theorem YY {L : List Nat} {b r : Bool} (hL : ∀ s ∈ L, s < len T) (hn : L.length < 1000) : Mz (Dm L) (.bool b) v0 S C T (.bool r) = .row [.int 1, .int (fdG (fun j => match L[j]? with | some s => !kp T r s | none => false) L.length 0)] := by
 rw [aW];refine find (F := fun j => Kg (Dm L) (.bool b) (.int (j : Nat)) v0 S C T (.bool r)) (n := L.length) (fun j hj => ?_) ?_
 ·show Kg (Dm L) (.bool b) (.int (j : Nat)) v0 S C T (.bool r) = _;have hg : L[j]? = some L[j] := List.getElem?_eq_getElem hj;have hm := hL _ (List.getElem_mem hj);rw [Xm, DU, ifT (by omega), ifF (by omega), HE hg, Ah, ifF (by omega), ifT (by omega), AZ (by omega), hg]
  show _ = cond (!kp T r L[j]) _ _;unfold kp;by_cases q : (cl T (L[j] : Nat) 2).toInt = 2
  ·rw [ifT q, decide_eq_true q];cases r <;> rfl
  ·rw [ifF q, decide_eq_false q];cases r <;> rfl
 ·show Kg (Dm L) (.bool b) (.int (L.length : Nat)) v0 S C T (.bool r) = _;rw [Xm, DU, ifF (by omega)]
theorem TG {L : List Nat} {b r : Bool} (hL : ∀ s ∈ L, s < len T) (hn : L.length < 1000) : ∃ d', NL (prt T L r) d' ∧ IP (Dm L) (.bool b) v0 S C T (.bool r) = .row [.int 1, d', .bool b] := by
 have ge := KR (p := fun j => match L[j]? with | some s => !kp T r s | none => false) (k := L.length) (i := 0)
 have lt := E9 (p := fun j => match L[j]? with | some s => !kp T r s | none => false) (k := L.length) (i := 0)
 have no := fun j => DJ (p := fun j => match L[j]? with | some s => !kp T r s | none => false) (k := L.length) (i := 0) (j := j)
 have is := M2 (p := fun j => match L[j]? with | some s => !kp T r s | none => false) (k := L.length) (i := 0)
 rw [dU, YY hL hn];dsimp +instances only [As, Au, Ah, Ai];rw [ifT (by rfl)]
 generalize fdG (fun j => match L[j]? with | some s => !kp T r s | none => false) L.length 0 = n at ge lt no is
 by_cases c : n = -1
 ·rw [ifT c]
  have e : prt T L r = L := List.filter_eq_self.2 fun s hs => by
   obtain ⟨j, hj, e⟩ := List.getElem_of_mem hs;have h := no j (by omega) (.inr ⟨by omega, by omega⟩)
   rw [List.getElem?_eq_getElem hj] at h;simp only [e] at h;simpa using h
  rw [e];exact ⟨_, VN, rfl⟩
 ·rw [ifF c];have hnl : n.toNat < L.length := by omega
  have hg : L[n.toNat]? = some L[n.toNat] := List.getElem?_eq_getElem hnl;have hbad := is (by omega)
  rw [hg] at hbad;have hbad : (!kp T r L[n.toNat]) = true := hbad
  have hall : prt T (L.take n.toNat) r = L.take n.toNat := List.filter_eq_self.2 fun s hs => by
   obtain ⟨j, hj, e⟩ := List.getElem_of_mem hs;have hj' : j < n.toNat ∧ j < L.length := by simp at hj; omega
   have h := no j (by omega) (.inl (by omega))
   rw [List.getElem?_eq_getElem hj'.2] at h;rw [List.getElem_take] at e;simp only [e] at h;simpa using h
  have htk : L.take (n.toNat + 1) = L.take n.toNat ++ [L[n.toNat]] := by rw [List.take_add_one, hg]; rfl
  have e1 : prt T (L.take (n.toNat + 1)) r = L.take n.toNat := by
   rw [htk];unfold prt at hall ⊢;rw [List.filter_append, hall, List.filter_cons_of_neg (by simpa using hbad)]
   simp
  have tl : (L.take (n.toNat + 1)).length = n.toNat + 1 := by simp; omega
  have X := J1 (v0 := v0) (S := S) (C := C) (T := T) (b := b) (r := r) hL hn (L.drop (n.toNat + 1)) (L.take (n.toNat + 1)) (Dm L) n.toNat (List.take_append_drop _ _).symm (by rw [e1]; simp; omega) DU V4 (fun m s h => by
   rw [e1] at h
   have hm : m < n.toNat := by
    rcases Nat.lt_or_ge m n.toNat with q | q
    ·exact q
    ·rw [List.getElem?_eq_none (by simp; omega)] at h; cases h
   rw [List.getElem?_take_of_lt hm] at h;exact HE h) (fun m s _ h => HE h)
  rw [tl] at X;rw [show n = ((n.toNat : Nat) : Int) by omega, AZ (by omega)]
  exact X
end
def alk (T : D) (s : Nat) (T' : D) (m : Nat) : Bool := decide ((cl T s 2).toInt = (cl T' m 2).toInt) && (D.strEq (cl T s 3) (cl T' m 3) && D.strEq (cl T s 4) (cl T' m 4))
theorem OO {T T' : D} {s m : Nat} : alk T s T' m = alk T' m T s := by
 unfold alk;rw [NS, AN, AN (a := cl T s 4)]
def lk (T T' : D) (L M : List Nat) : Option Nat := L.find? fun s => !M.any (alk T s T')
def ST (p : Nat → Bool) (M : List Nat) (j : Nat) : Bool := match M[j]? with | some m => p m | none => false
theorem WU {p : Nat → Bool} {M : List Nat} : decide (fdG (ST p M) M.length 0 < 0) = !M.any p := by
 cases h : M.any p
 ·rw [decide_eq_true]
  ·rfl
  rw [BI]
  ·omega
  intro j _ hj;have hj : j < M.length := by omega
  unfold ST;rw [List.getElem?_eq_getElem hj];exact (List.any_eq_false.1 h _ (List.getElem_mem hj)) |> (by simpa using ·)
 ·rw [decide_eq_false]
  ·rfl
  intro c;obtain ⟨x, hx, hp⟩ := List.any_eq_true.1 h;obtain ⟨j, hj, e⟩ := List.getElem_of_mem hx;have n := DJ (p := ST p M) (k := M.length) (i := 0) (j := j) (by omega) (.inr ⟨c, by omega⟩)
  unfold ST at n;rw [List.getElem?_eq_getElem hj, e] at n;have n : p x = false := n;rw [hp] at n;cases n
section
variable [Ap]
variable {v0 S C T v0' S' C' T' : D}
theorem Zd {M : List Nat} {dm : D} {b : Bool} {s : Nat} (hM : ∀ m ∈ M, m < len T') (hd : NL M dm) (hn : M.length < 1000) (hs : s < len T) : RM dm (.bool b) v0' S' C' T' v0 S C T (.int (s : Nat)) = .row [.int 1, .int (fdG (ST (alk T s T') M) M.length 0)] := by
 have hl := hd.l;rw [br];refine find (F := fun j => Mb dm (.bool b) (.int (j : Nat)) v0' S' C' T' v0 S C T (.int (s : Nat))) (n := M.length) (fun j hj => ?_) ?_
 ·show Mb dm (.bool b) (.int (j : Nat)) v0' S' C' T' v0 S C T (.int (s : Nat)) = _;have hg : M[j]? = some M[j] := List.getElem?_eq_getElem hj;have hm := hM _ (List.getElem_mem hj);rw [XF, hl, ifT (by omega), ifF (by omega), hd.c j _ hg, Ah, ifF (by omega), ifT (by omega), ifF (by omega), ifT (by omega), AZ (by omega)]
  unfold ST;rw [hg];show cond (alk T' M[j] T s) _ _ = cond (alk T s T' M[j]) _ _;rw [OO]
 ·show Mb dm (.bool b) (.int (M.length : Nat)) v0' S' C' T' v0 S C T (.int (s : Nat)) = _;rw [XF, hl, ifF (by omega)]
def lkR : Option Nat → D
 | some s => .row [.int 1, .int (s : Nat), .bool true]
 | none => .row [.int 1, .int 0, .bool false]
theorem Oc {L M : List Nat} {dl dm : D} {b b' : Bool} (hL : ∀ s ∈ L, s < len T) (hM : ∀ m ∈ M, m < len T') (hl : NL L dl) (hm : NL M dm) (hn : L.length < 1000) (hn' : M.length < 1000) : ∀ (rem pre : List Nat), L = pre ++ rem → RI dm (.bool b') dl (.bool b) (.int (pre.length : Nat)) v0 S C T v0' S' C' T' = lkR (lk T T' rem M)
 | [], pre => fun e => by
  have : L.length = pre.length := by rw [e]; simp
  rw [XJ, hl.l, ifF (by omega)]
  rfl
 | s :: rem, pre => fun e => by
  have hg := Gn e;have hp : pre.length < L.length := by rw [e]; simp
  have hs := hL s (by rw [e]; simp)
  have e' : L = (pre ++ [s]) ++ rem := by rw [e]; simp
  have epl : (pre ++ [s]).length = pre.length + 1 := by simp
  have ih := Oc (b := b) (b' := b') hL hM hl hm hn hn' rem (pre ++ [s]) e';rw [epl] at ih;rw [XJ, hl.l, ifT (by omega), ifF (by omega), hl.c _ _ hg, Zd hM hm hn' hs]
  dsimp +instances only [As, Au, Ah, Ai];rw [ifT (by rfl), WU, AZ (by omega), ih]
  unfold lk;rw [List.find?_cons];cases (!M.any (alk T s T')) <;> rfl
theorem Tl {L M : List Nat} {dl dm : D} {b b' : Bool} (hL : ∀ s ∈ L, s < len T) (hM : ∀ m ∈ M, m < len T') (hl : NL L dl) (hm : NL M dm) (hn : L.length < 1000) (hn' : M.length < 1000) : Jg v0 S C T dl (.bool b) v0' S' C' T' dm (.bool b') = lkR (lk T T' L M) :=
 (fS ..).trans (Oc hL hM hl hm hn hn' L [] rfl)
end
end Ci

