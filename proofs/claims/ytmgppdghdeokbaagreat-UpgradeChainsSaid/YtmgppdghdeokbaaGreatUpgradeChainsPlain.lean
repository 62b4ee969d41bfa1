/- What is proved: what the plain functions over data say, whose trees the text before writes out: the law UpgradeChains answers true. Conditions: those that each theorem states. -/
import Derived.Test.YtmgppdghdeokbaaGreatUpgradeChainsTree
set_option linter.unusedVariables false
set_option linter.unusedSectionVars false
set_option linter.unusedSimpArgs false
namespace Go.AE
section
variable [Av]
def atV (Ts : List (List (Tr Plf))) (xs : List D) : Val := Hi (Ax Ts) xs
def fin (Ts : List (List (Tr Plf))) (k : Nat) (V : Val) : Plf → D
 | .stuck => .row []
 | .done s cs => .row (.int (s + 1 : Nat) :: cs.map (Ab V))
 | .next j θ => Ax Ts k (.row (.int j :: θ.map (Ab V)))
def N7 (Ts : List (List (Tr Plf))) (k : Nat) (V : Val) (t : Tr Plf) : D := fin Ts k V (t.get V)
theorem XT {Ts : List (List (Tr Plf))} (h : C7 0 Ts = true) {k p : Nat} {T : List (Tr Plf)} {t : Tr Plf} {xs : List D} (hk : Ts[k]? = some T) (hp : T[p]? = some t) :
  Ax Ts k (.row (.int (p : Nat) :: xs)) = N7 Ts k (atV Ts xs) t := by
 have hd : Bq T (Ax Ts) (.row (.int (p : Nat) :: xs)) = BP (atV Ts xs) (t.get (atV Ts xs)) := by
  show (match T[p]? with | some t => BP _ (t.get _) | none => none) = _
  rw [hp];rfl
 unfold N7 fin;split
 ·rename_i e;rw [e] at hd;rw [AK h hk];rcases Dn (Bq T (Ax Ts)) (.row (.int (p : Nat) :: xs)) with q | ⟨n, q⟩
  ·exact q
  ·cases n with
   | zero => cases q
   | succ n =>
    simp only [Er, hd] at q;cases q
 ·rename_i e;rw [e] at hd;rw [AK h hk];exact M2 hd
 ·rename_i e;rw [e] at hd;rw [AK h hk, Mv hd, ← AK h hk]
theorem NO {Ts : List (List (Tr Plf))} {k : Nat} {V : Val} {e : SB} {a b : Tr Plf} : N7 Ts k V (.split e a b) = if Ad V e = true then N7 Ts k V a else N7 Ts k V b := by
 unfold N7;rw [show (Tr.split e a b).get V = match Ad V e with | true => a.get V | false => b.get V from rfl]
 cases Ad V e <;> rfl
end
theorem DA {a : Int} (h : -9223372036854775808 ≤ a) (h' : a < 9223372036854775808) : IntKind.wrap .i64 a = a := by
 show (if (true && decide (a % (2 ^ 64 : Int) ≥ 2 ^ 63)) = true then a % (2 ^ 64 : Int) - 2 ^ 64 else a % (2 ^ 64 : Int)) = a
 split
 ·rename_i q;simp only [Bool.true_and, decide_eq_true_eq] at q;omega
 ·rename_i q;simp only [Bool.true_and, decide_eq_true_eq] at q;omega
def len (d : D) : Nat := d.rows.length
def Bw (d : D) : Nat := d.toStr.data.toList.length
def cl (a : D) (i : Int) (j : Nat) : D := (a.rows.getD i.toNat default).cells.getD j default
def sl (a : D) (j : Nat) : D := a.cells.getD j default
def E5 : D := .slc true []
def D6 : D := .slc false []
def ad (a r : D) : D := .slc false (a.rows ++ [r])
def upd (a : D) (i : Int) (j : Nat) (x : D) : D := .slc a.isNil (a.rows.modify i.toNat fun r => .row (r.cells.set j x))
def sb (a : D) (lo hi : Int) : D := .slc a.isNil ((a.rows.drop lo.toNat).take (hi.toNat - lo.toNat))
def ni (a : D) (b : Bool) : D := .slc b a.rows
def Fo (l b : Nat) : D := .str ⟨(CE l b).toArray⟩
def Tf (a b : D) : D := .str (a.toStr ++ b.toStr)
def Tl (a : D) : D := .slc false (a.toStr.data.toList.map fun b => .row [.int b.toNat])
def mIx (ks : List Kd) (a k : D) : Int := Ec ks k.cells a.rows 0
def eqC (a : D) (l b : Nat) : Bool := strEq a.toStr.data.toList.length (Au a.toStr.data.toList) l b
theorem ifT {α : Type} {p : Prop} [Decidable p] {a b : α} (h : p) : cond (decide p) a b = a := by rw [decide_eq_true h]; rfl
theorem ifF {α : Type} {p : Prop} [Decidable p] {a b : α} (h : ¬ p) : cond (decide p) a b = b := by rw [decide_eq_false h]; rfl
theorem cT {α : Type} {c : Bool} {a b : α} (h : c = true) : cond c a b = a := by rw [h]; rfl
section
variable [Av]
def De (Ts : List (List (Tr Plf))) (k : Nat) (V : Val) : Tr Plf → D
 | .leaf l => fin Ts k V l
 | .split e a b => cond (Ad V e) (De Ts k V a) (De Ts k V b)
theorem HW {Ts : List (List (Tr Plf))} {k : Nat} {V : Val} : ∀ t : Tr Plf, N7 Ts k V t = De Ts k V t
 | .leaf l => rfl
 | .split e a b => by
  rw [NO, HW a, HW b, De];cases Ad V e <;> rfl
theorem UM {Ts : List (List (Tr Plf))} (h : C7 0 Ts = true) {k p : Nat} {T : List (Tr Plf)} {t : Tr Plf} {xs : List D} (hk : Ts[k]? = some T) (hp : T[p]? = some t) :
  Ax Ts k (.row (.int (p : Nat) :: xs)) = De Ts k (atV Ts xs) t := (XT h hk hp).trans (HW t)
theorem cg {Ts : List (List (Tr Plf))} {k : Nat} {V : Val} {e : SB} {a b : Tr Plf} {c : Bool} {x y : D} (h : Ad V e = c) (ha : De Ts k V a = x) (hb : De Ts k V b = y) : De Ts k V (.split e a b) = cond c x y := by
 rw [De, h, ha, hb]
end
theorem lE {V : Val} {a b : SE} {x y : Int} (h : (Ab V a).toInt = x) (h' : (Ab V b).toInt = y) : Ad V (.lss a b) = decide (x < y) := by rw [← h, ← h']; rfl
theorem qE {V : Val} {a b : SE} {x y : Int} (h : (Ab V a).toInt = x) (h' : (Ab V b).toInt = y) : Ad V (.eql a b) = decide (x = y) := by rw [← h, ← h']; rfl
section
variable [Av]
theorem cL {Ts : List (List (Tr Plf))} {k : Nat} {V : Val} {e f : SE} {a b : Tr Plf} {m n : Int} {x y : D} (ha : De Ts k V a = x) (hb : De Ts k V b = y) (h : (Ab V e).toInt = m := by rfl) (h' : (Ab V f).toInt = n := by rfl) : De Ts k V (.split (.lss e f) a b) = cond (decide (m < n)) x y := cg (lE h h') ha hb
theorem cQ {Ts : List (List (Tr Plf))} {k : Nat} {V : Val} {e f : SE} {a b : Tr Plf} {m n : Int} {x y : D} (ha : De Ts k V a = x) (hb : De Ts k V b = y) (h : (Ab V e).toInt = m := by rfl) (h' : (Ab V f).toInt = n := by rfl) : De Ts k V (.split (.eql e f) a b) = cond (decide (m = n)) x y := cg (qE h h') ha hb
end
theorem aE {V : Val} {a b : SE} {x y : Bool} (h : Ad V a = x) (h' : Ad V b = y) : Ad V (.and a b) = (x && y) := by rw [← h, ← h']; rfl
theorem B7 {a r : D} : len (ad a r) = len a + 1 := by
 show (a.rows ++ [r]).length = _;simp [len]
theorem Dv : len D6 = 0 := rfl
theorem Dr {a : D} {b : Bool} : len (ni a b) = len a := rfl
theorem U1 {a : D} {lo hi : Int} (h : lo.toNat ≤ hi.toNat) (h' : hi.toNat ≤ len a) : len (sb a lo hi) = hi.toNat - lo.toNat := by
 show ((a.rows.drop _).take _).length = _;have : hi.toNat ≤ a.rows.length := h';simp;omega
theorem AZ {x : D} {l : List D} : sl (.row (x :: l)) 0 = x := rfl
theorem AY {x : D} {l : List D} {n : Nat} : sl (.row (x :: l)) (n + 1) = sl (.row l) n := rfl
theorem Ap {n : Int} : (D.int n).toInt = n := rfl
theorem AG {b : Bool} : (D.bool b).toBool = b := rfl
theorem Jj {a r : D} {k : Int} {j : Nat} (hk : 0 ≤ k) : cl (ad a r) k j = if k = len a then sl r j else cl a k j := by
 have hl : len a = a.rows.length := rfl;show ((a.rows ++ [r])[k.toNat]?.getD default).cells.getD j default = _;by_cases q : k.toNat < a.rows.length
 ·rw [List.getElem?_append_left q, if_neg (by omega)]
  rfl
 ·by_cases q' : k = len a
  ·subst q';rw [if_pos rfl];have : ((len a : Int)).toNat = a.rows.length := by omega
   rw [this];simp [sl]
  ·rw [if_neg q', List.getElem?_eq_none (by simp; omega)]
   show _ = (a.rows[k.toNat]?.getD default).cells.getD j default;rw [List.getElem?_eq_none (by omega)]
theorem G2 {a : D} {b : Bool} {k : Int} {j : Nat} : cl (ni a b) k j = cl a k j := rfl
theorem QL {P : Program} {ts : List TypeId} {xs : List D} {ks : List Kd} (h : Hw P ts xs) (hk : AB (Env.of P) ts = some ks) : ks.length = xs.length ∧ Ja (Env.of P).kinds 9 ks xs := by
 obtain ⟨ks', cs, M, e, hd, _, hc⟩ := h;rw [hk] at e;cases e;exact ⟨hd.len.2, hc⟩
theorem F7.cell {K : TypeId → Option (List Kd)} {m j : Nat} {e : TypeId} {ks : List Kd} {kd : Kd} {d : D} {i : Int} (h : F7 K (m + 1) (.slice e) d) (hk : K e = some ks) (h0 : 0 ≤ i) (hi : i < len d) (hj : ks[j]? = some kd) : F7 K m kd (cl d i j) := by
 obtain ⟨nl, rows, rfl, _, q⟩ := h;have hi' : i.toNat < rows.length := by have : len (.slc nl rows) = rows.length := rfl; omega
 obtain ⟨cs, e1, _, e3⟩ := q ks hk _ (List.getElem_mem hi');show F7 K m kd ((rows[i.toNat]?.getD default).cells.getD j default);rw [List.getElem?_eq_getElem hi', Option.getD_some, e1];exact e3 j kd hj
theorem F7.toI {K : TypeId → Option (List Kd)} {m : Nat} {k : IntKind} {d : D} (h : F7 K m (.int k) d) : ∃ n, d = .int n := by cases m <;> exact h
theorem F7.toB {K : TypeId → Option (List Kd)} {m : Nat} {d : D} (h : F7 K m .bool d) : ∃ b, d = .bool b := by cases m <;> exact h
def fdG (p : Nat → Bool) : Nat → Nat → Int
 | 0, _ => -1
 | k + 1, i => cond (p i) (i : Int) (fdG p k (i + 1))
theorem HX {p : Nat → Bool} : ∀ {k i : Nat}, fdG p k i < i + k
 | 0, i => by show (-1 : Int) < _; omega
 | k + 1, i => by
  rw [fdG];have := HX (p := p) (k := k) (i := i + 1);cases p i
  ·show fdG p k (i + 1) < _; omega
  ·show (i : Int) < _; omega
theorem Mf {p : Nat → Bool} : ∀ {k i : Nat}, fdG p k i = -1 ∨ (i : Int) ≤ fdG p k i
 | 0, i => .inl rfl
 | k + 1, i => by
  rw [fdG];cases p i
  ·show fdG p k (i + 1) = _ ∨ _ ≤ fdG p k (i + 1);rcases Mf (p := p) (k := k) (i := i + 1) with h | h
   ·exact .inl h
   ·exact .inr (by omega)
  ·exact .inr (Int.le_refl _)
theorem OA {p : Nat → Bool} : ∀ {k i : Nat}, 0 ≤ fdG p k i → p (fdG p k i).toNat = true
 | 0, i => fun h => by simp [fdG] at h
 | k + 1, i => by
  rw [fdG];cases q : p i
  ·exact OA (k := k)
  ·intro _;show p i = true;exact q
theorem Me {p : Nat → Bool} : ∀ {k i j : Nat}, i ≤ j → j < i + k → p j = true → 0 ≤ fdG p k i ∧ fdG p k i ≤ j
 | 0, i, j => fun h h' => by omega
 | k + 1, i, j => by
  intro h h' hp;rw [fdG];cases q : p i
  ·have : i ≠ j := fun c => by rw [c, hp] at q; cases q
   exact Me (k := k) (by omega) (by omega) hp
  ·show 0 ≤ (i : Int) ∧ (i : Int) ≤ j; omega
theorem Dt {p : Nat → Bool} {k i j : Nat} (h : i ≤ j) (h' : (j : Int) < fdG p k i ∨ (fdG p k i < 0 ∧ j < i + k)) : p j = false := by
 cases q : p j
 ·rfl
 ·have := HX (p := p) (k := k) (i := i);have := Me (p := p) (k := k) h (by omega) q
  omega
theorem Hu {p : Nat → Bool} {k i : Nat} (h : ∀ j, i ≤ j → j < i + k → p j = false) : fdG p k i = -1 := by
 rcases Mf (p := p) (k := k) (i := i) with q | q
 ·exact q
 ·have a := OA (p := p) (k := k) (i := i) (by omega)
  rw [h _ (by omega) (by have := HX (p := p) (k := k) (i := i); omega)] at a
  cases a
theorem FS {p q : Nat → Bool} : ∀ {k i : Nat}, (∀ j, i ≤ j → j < i + k → p j = q j) → fdG p k i = fdG q k i
 | 0, i, h => rfl
 | k + 1, i, h => by
  rw [fdG, fdG, h i (Nat.le_refl _) (by omega), FS fun j a b => h j (by omega) (by omega)]
theorem TW {F : Nat → D} {bad : Nat → Bool} {B : Nat → D} {n : Nat} : ∀ {k i : Nat}, i + k = n → (∀ j, i ≤ j → j < n → F j = cond (bad j) (B j) (F (j + 1))) → F i = cond (decide (fdG bad k i < 0)) (F n) (B (fdG bad k i).toNat)
 | 0, i => fun h _ => by
  have : i = n := by omega
  subst this;rfl
 | k + 1, i => fun h hs => by
  rw [hs i (Nat.le_refl _) (by omega), fdG]
  cases bad i
  ·exact TW (by omega) fun j a b => hs j (by omega) b
  ·show B i = cond (decide ((i : Int) < 0)) _ (B (i : Int).toNat);rw [ifF (by omega)]
   rfl
theorem IB {F : Nat → D} {bad : Nat → Bool} {B : Nat → D} {n : Nat} (hs : ∀ j, j < n → F j = cond (bad j) (B j) (F (j + 1))) : F 0 = cond (decide (fdG bad n 0 < 0)) (F n) (B (fdG bad n 0).toNat) := TW (by omega) fun j _ b => hs j b
theorem find {F : Nat → D} {bad : Nat → Bool} {n : Nat} (hs : ∀ j, j < n → F j = cond (bad j) (.row [.int 1, .int (j : Nat)]) (F (j + 1))) (hr : F n = .row [.int 1, .int (-1)]) : F 0 = .row [.int 1, .int (fdG bad n 0)] := by
 rw [IB hs, hr];have h := Mf (p := bad) (k := n) (i := 0);by_cases q : fdG bad n 0 < 0
 ·rw [ifT q];rcases h with h | h
  ·rw [h]
  ·omega
 ·rw [ifF q];have : ((fdG bad n 0).toNat : Int) = fdG bad n 0 := by omega
  rw [this]
theorem CM {i : Nat} (h : i < 4611686018427387904) : IntKind.wrap .i64 ((i : Int) + 1) = ((i + 1 : Nat) : Int) := by rw [DA (by omega) (by omega)]; omega
theorem LB {α : Type} {c : Bool} {a b x : α} (h1 : c = true → a = x) (h2 : c = false → b = x) : cond c a b = x := by
 cases c
 ·exact h2 rfl
 ·exact h1 rfl
theorem dT {p : Prop} [Decidable p] (h : decide p = true) : p := of_decide_eq_true h
theorem dF {p : Prop} [Decidable p] (h : decide p = false) : ¬ p := of_decide_eq_false h
theorem Pq {x y : Int} : decide (x = y) = decide (y = x) := decide_eq_decide.2 eq_comm
theorem M0 {a : D} : D.strEq a a = true := by
 show (Nat.beq _ _ && Nat.beq _ _) = true;simp
theorem Bv {a b : D} : D.strEq a b = D.strEq b a := KC (U := A1) _ _ _ _
theorem JZ {a : D} : eqC a 0 0 = decide (Bw a = 0) := by
 show (Nat.beq _ 0 && Nat.beq _ 0) = _;show _ = decide (a.toStr.data.toList.length = 0);cases a.toStr.data.toList <;> simp [Au]
theorem Rj {a b : D} : Bw (Tf a b) = Bw a + Bw b := by
 show (a.toStr ++ b.toStr).data.toList.length = _;simp [Bw]
theorem OG {a b : D} : eqC (Tf a b) 0 0 = (eqC a 0 0 && eqC b 0 0) := by
 rw [JZ, JZ, JZ, Rj, Bool.eq_iff_iff];simp
theorem Dz {a b : D} : D.strEq a b = true ↔ a.toStr = b.toStr := by
 show AE.strEq _ _ _ _ = true ↔ _;rw [BX (U := A1)];constructor
 ·intro h;rw [ByteArray.toList_eq, ByteArray.toList_eq] at h;have : a.toStr.data.toList = b.toStr.data.toList := by simpa only [beq_iff_eq] using h
  exact ByteArray.ext (Array.toList_inj.1 this)
 ·intro h;rw [h];simp
theorem Lu {a b c : D} (h : D.strEq a b = true) (h' : D.strEq b c = true) : D.strEq a c = true := Dz.2 ((Dz.1 h).trans (Dz.1 h'))
theorem EN {a b c : D} (h : D.strEq a b = true) : D.strEq a c = D.strEq b c := by
 show AE.strEq _ _ _ _ = AE.strEq _ _ _ _;rw [Dz.1 h]
theorem Xs {a : D} {i : Nat} {j c : Nat} (hi : i ≤ len a) (hj : j < i) : cl (sb a 0 i) j c = cl a j c := by
 have hi' : i ≤ a.rows.length := hi;show (((a.rows.drop 0).take (i - 0)).getD j default).cells.getD c default = (a.rows.getD j default).cells.getD c default;rw [List.getD_eq_getElem?_getD, List.getD_eq_getElem?_getD, List.getElem?_take];simp [hj]
theorem SQ {a k : D} (hw : ∀ r ∈ a.rows, ∃ x l, r = .row (x :: l)) : mIx [.str] a (.row [k]) = fdG (fun i => D.strEq (cl a i 0) k) (len a) 0 := by
 have gen : ∀ (rs l : List D) (nl : Bool), (∀ r ∈ rs, ∃ x l, r = .row (x :: l)) → Ec [.str] [k] rs l.length = fdG (fun i => D.strEq (cl (.slc nl (l ++ rs)) i 0) k) rs.length l.length := by
  intro rs
  induction rs with
  | nil => intro l nl _; rfl
  | cons r rs ih =>
   intro l nl hr;rw [Ec, List.length_cons, fdG]
   have e : cl (.slc nl (l ++ r :: rs)) (l.length : Nat) 0 = r.cells.getD 0 default := by
    show ((l ++ r :: rs).getD l.length default).cells.getD 0 default = _;simp
   have i2 := ih (l ++ [r]) nl fun x hx => hr x (List.mem_cons_of_mem _ hx)
   rw [List.length_append, List.append_assoc] at i2;have i2 : Ec [.str] [k] rs (l.length + 1) = fdG (fun i => D.strEq (cl (.slc nl (l ++ r :: rs)) i 0) k) rs.length (l.length + 1) := i2
   rw [e, i2]
   have h : Dm [.str] r.cells [k] = D.strEq (r.cells.getD 0 default) k := by
    obtain ⟨x, t, e⟩ := hr r (List.mem_cons_self ..);subst e;show (D.strEq x k && true) = D.strEq x k;rw [Bool.and_true]
   rw [h];cases D.strEq (r.cells.getD 0 default) k <;> rfl
 have h := gen a.rows [] a.isNil hw;exact h
def Cq (f : Nat → D) (i : Nat) : D := .slc false ((List.range i).map fun j => .row [f j, .bool true])
theorem IZ {f : Nat → D} {i : Nat} : ad (Cq f i) (.row [f i, .bool true]) = Cq f (i + 1) := by
 unfold Cq ad;rw [List.range_succ, List.map_append];rfl
theorem Mn {f : Nat → D} {i : Nat} {k : D} : mIx [.str] (Cq f i) (.row [k]) = fdG (fun j => D.strEq (f j) k) i 0 := by
 rw [SQ (by
  intro r hr;obtain ⟨j, _, e⟩ := List.mem_map.1 hr;exact ⟨_, _, e.symm⟩)]
 have hl : len (Cq f i) = i := by unfold len Cq; simp [D.rows]
 rw [hl];refine FS fun j _ hj => ?_
 have : cl (Cq f i) j 0 = f j := by
  show ((((List.range i).map fun j => D.row [f j, .bool true])[j]?).getD default).cells.getD 0 default = f j
  rw [List.getElem?_map, List.getElem?_range (by omega)]
  rfl
 rw [this]
theorem JQ {f : Nat → D} {i : Nat} {j : Int} (h0 : 0 ≤ j) (h : j < i) : cl (Cq f i) j 1 = .bool true := by
 show ((((List.range i).map fun j => D.row [f j, .bool true])[j.toNat]?).getD default).cells.getD 1 default = _
 rw [List.getElem?_map, List.getElem?_range (by omega)]
 rfl
theorem ShK.cell {K : TypeId → Option (List Kd)} {o : Option Nat} {m j : Nat} {e : TypeId} {ks : List Kd} {kd : Kd} {d : D} {i : Nat} (h : ShK K o (m + 1) (.slice e) d) (hk : K e = some ks) (hi : i < len d) (hj : ks[j]? = some kd) : ShK K o m kd (cl d i j) := h.2 ks hk i hi j kd hj
theorem ShK.rows {K : TypeId → Option (List Kd)} {b m : Nat} {e : TypeId} {d : D} (h : ShK K (some b) (m + 1) (.slice e) d) : len d ≤ b := h.1 b rfl
theorem ShK.text {K : TypeId → Option (List Kd)} {b m : Nat} {d : D} (h : ShK K (some b) m .str d) : Bw d ≤ b := by
 have : leB (some b) (Bw d) := by cases m <;> exact h
 exact this b rfl
end Go.AE
set_option maxRecDepth 100000
namespace Uh
open Go Go.AE
theorem lt : C7 0 ts = true := by decide
theorem gw [Av] {k p : Nat} {T : List (Tr Plf)} {t : Tr Plf} {xs : List D} {x : D} (hk : ts[k]? = some T) (hp : T[p]? = some t) (h : De ts k (atV ts xs) t = x) : Ax ts k (.row (.int (p : Nat) :: xs)) = x := (UM lt hk hp).trans h
section
variable [Av]
def Ng (v0 v1 v2 v3 : D) : D := Ax ts 0 (.row [.int (0 : Nat), v0, v1, v2, v3])
def PG (v0 v1 v2 v3 v4 v5 : D) : D := Ax ts 0 (.row [.int (1 : Nat), v0, v1, v2, v3, v4, v5])
def Sw (v0 v1 v2 v3 v4 v5 : D) : D := Ax ts 0 (.row [.int (2 : Nat), v0, v1, v2, v3, v4, v5])
def S4 (v0 v1 v2 v3 v4 v5 : D) : D := Ax ts 0 (.row [.int (3 : Nat), v0, v1, v2, v3, v4, v5])
def GX : D := Ax ts 1 (.row [.int (0 : Nat)])
def Eb (v0 : D) : D := Ax ts 2 (.row [.int (0 : Nat), v0])
def Ot (v0 v1 v2 : D) : D := Ax ts 2 (.row [.int (1 : Nat), v0, v1, v2])
def Ro (v0 v1 : D) : D := Ax ts 3 (.row [.int (0 : Nat), v0, v1])
def Tj (v0 v1 v2 : D) : D := Ax ts 3 (.row [.int (1 : Nat), v0, v1, v2])
def P4 (v0 v1 v2 v3 v4 v5 v6 : D) : D := Ax ts 4 (.row [.int (0 : Nat), v0, v1, v2, v3, v4, v5, v6])
def Qv (v0 v1 v2 v3 v4 v5 : D) : D := Ax ts 4 (.row [.int (1 : Nat), v0, v1, v2, v3, v4, v5])
def HU (v0 v1 : D) : D := Ax ts 5 (.row [.int (0 : Nat), v0, v1])
def Sv (v0 v1 v2 : D) : D := Ax ts 5 (.row [.int (1 : Nat), v0, v1, v2])
def P2 (v0 v1 v2 v3 v4 v5 v6 : D) : D := Ax ts 6 (.row [.int (0 : Nat), v0, v1, v2, v3, v4, v5, v6])
def PV (v0 v1 v2 v3 v4 v5 : D) : D := Ax ts 6 (.row [.int (1 : Nat), v0, v1, v2, v3, v4, v5])
def Uk (v0 v1 v2 v3 v4 v5 v6 v7 v8 v9 : D) : D := Ax ts 7 (.row [.int (0 : Nat), v0, v1, v2, v3, v4, v5, v6, v7, v8, v9])
def Qs (v0 v1 v2 v3 v4 v5 v6 v7 v8 v9 v10 : D) : D := Ax ts 7 (.row [.int (1 : Nat), v0, v1, v2, v3, v4, v5, v6, v7, v8, v9, v10])
def Qr (v0 v1 v2 v3 v4 v5 v6 : D) : D := Ax ts 8 (.row [.int (0 : Nat), v0, v1, v2, v3, v4, v5, v6])
def GI (v0 v1 v2 v3 v4 v5 : D) : D := Ax ts 8 (.row [.int (1 : Nat), v0, v1, v2, v3, v4, v5])
def HO (v0 v1 : D) : D := Ax ts 9 (.row [.int (0 : Nat), v0, v1])
def SK (v0 v1 v2 : D) : D := Ax ts 9 (.row [.int (1 : Nat), v0, v1, v2])
def Ep (v0 v1 : D) : D := Ax ts 10 (.row [.int (0 : Nat), v0, v1])
def O7 (v0 v1 v2 : D) : D := Ax ts 10 (.row [.int (1 : Nat), v0, v1, v2])
def Fg (v0 v1 v2 v3 v4 v5 v6 v7 v8 v9 : D) : D := Ax ts 11 (.row [.int (0 : Nat), v0, v1, v2, v3, v4, v5, v6, v7, v8, v9])
def FD (v0 v1 v2 v3 v4 v5 v6 v7 v8 v9 v10 v11 v12 : D) : D := Ax ts 11 (.row [.int (1 : Nat), v0, v1, v2, v3, v4, v5, v6, v7, v8, v9, v10, v11, v12])
def Dy (v0 v1 v2 v3 v4 v5 v6 v7 v8 v9 v10 v11 v12 v13 v14 v15 : D) : D := Ax ts 11 (.row [.int (2 : Nat), v0, v1, v2, v3, v4, v5, v6, v7, v8, v9, v10, v11, v12, v13, v14, v15])
def Iw (v0 v1 v2 v3 : D) : D := Ax ts 12 (.row [.int (0 : Nat), v0, v1, v2, v3])
def OL (v0 v1 v2 v3 v4 : D) : D := Ax ts 12 (.row [.int (1 : Nat), v0, v1, v2, v3, v4])
def MD (v0 v1 : D) : D := Ax ts 13 (.row [.int (0 : Nat), v0, v1])
def In (v0 v1 v2 v3 v4 : D) : D := Ax ts 13 (.row [.int (1 : Nat), v0, v1, v2, v3, v4])
def Lh (v0 v1 v2 : D) : D := Ax ts 14 (.row [.int (0 : Nat), v0, v1, v2])
def OW (v0 v1 v2 v3 : D) : D := Ax ts 14 (.row [.int (1 : Nat), v0, v1, v2, v3])
def OT (v0 v1 : D) : D := Ax ts 15 (.row [.int (0 : Nat), v0, v1])
def H7 (v0 v1 v2 : D) : D := Ax ts 15 (.row [.int (1 : Nat), v0, v1, v2])
def A3 (v0 v1 v2 v3 v4 v5 v6 v7 v8 v9 v10 v11 v12 v13 v14 v15 : D) : D := Ax ts 16 (.row [.int (0 : Nat), v0, v1, v2, v3, v4, v5, v6, v7, v8, v9, v10, v11, v12, v13, v14, v15])
def Gf (v0 v1 v2 v3 v4 v5 v6 v7 : D) : D := Ax ts 16 (.row [.int (1 : Nat), v0, v1, v2, v3, v4, v5, v6, v7])
def Aj (v0 v1 v2 v3 v4 v5 : D) : D := Ax ts 17 (.row [.int (0 : Nat), v0, v1, v2, v3, v4, v5])
def Iu (v0 v1 v2 v3 v4 v5 v6 v7 : D) : D := Ax ts 17 (.row [.int (1 : Nat), v0, v1, v2, v3, v4, v5, v6, v7])
def J5 (v0 v1 v2 v3 v4 v5 v6 v7 v8 v9 : D) : D := Ax ts 18 (.row [.int (0 : Nat), v0, v1, v2, v3, v4, v5, v6, v7, v8, v9])
def KL (v0 v1 v2 v3 v4 v5 v6 v7 v8 v9 v10 : D) : D := Ax ts 18 (.row [.int (1 : Nat), v0, v1, v2, v3, v4, v5, v6, v7, v8, v9, v10])
def B4 (v0 v1 v2 v3 v4 v5 v6 v7 v8 v9 v10 v11 v12 v13 v14 : D) : D := Ax ts 19 (.row [.int (0 : Nat), v0, v1, v2, v3, v4, v5, v6, v7, v8, v9, v10, v11, v12, v13, v14])
def Bo (v0 v1 v2 v3 v4 v5 v6 v7 v8 v9 v10 v11 v12 v13 v14 v15 v16 v17 v18 v19 : D) : D := Ax ts 19 (.row [.int (1 : Nat), v0, v1, v2, v3, v4, v5, v6, v7, v8, v9, v10, v11, v12, v13, v14, v15, v16, v17, v18, v19])
def AQ (v0 v1 v2 v3 v4 v5 v6 v7 v8 v9 v10 v11 : D) : D := Ax ts 20 (.row [.int (0 : Nat), v0, v1, v2, v3, v4, v5, v6, v7, v8, v9, v10, v11])
def Pa (v0 v1 v2 v3 v4 v5 : D) : D := Ax ts 21 (.row [.int (0 : Nat), v0, v1, v2, v3, v4, v5])
def Ik (v0 v1 v2 v3 v4 v5 v6 : D) : D := Ax ts 21 (.row [.int (1 : Nat), v0, v1, v2, v3, v4, v5, v6])
def TT (v0 v1 v2 v3 v4 v5 v6 v7 v8 v9 v10 v11 v12 v13 v14 v15 v16 v17 : D) : D := Ax ts 22 (.row [.int (0 : Nat), v0, v1, v2, v3, v4, v5, v6, v7, v8, v9, v10, v11, v12, v13, v14, v15, v16, v17])
theorem XG (v0 v1 v2 v3 : D) : Ng v0 v1 v2 v3 =
  cond (6 < (len v1 : Int)) (
 .row [.int 1, (.bool false)]) (
 cond (12 < (len v3 : Int)) (
 .row [.int 1, (.bool false)]) (
 cond (5 < (len v2 : Int)) (
 .row [.int 1, (.bool false)]) (
 cond (40 < (Bw v0 : Int)) (
 .row [.int 1, (.bool false)]) (
 PG (.int 0) (.int 0) v0 v1 v2 v3)))) := gw rfl rfl rfl
theorem W5 (v0 v1 : Int) (v2 v3 v4 v5 : D) : PG (.int v0) (.int v1) v2 v3 v4 v5 =
  cond (v1 < len v4) (
 cond (v1 < 0) (
 .row []) (
 cond ((cl v4 v1 1).toInt < 0) (
 cond (40 < (Bw (cl v4 v1 0) : Int)) (
 .row [.int 1, (.bool false)]) (
 PG (.int (IntKind.wrap .i64 (v0 + 0))) (.int (IntKind.wrap .i64 (v1 + 1))) v2 v3 v4 v5)) (
 cond (100 < (cl v4 v1 1).toInt) (
 cond (40 < (Bw (cl v4 v1 0) : Int)) (
 .row [.int 1, (.bool false)]) (
 PG (.int (IntKind.wrap .i64 (v0 + 100))) (.int (IntKind.wrap .i64 (v1 + 1))) v2 v3 v4 v5)) (
 cond (40 < (Bw (cl v4 v1 0) : Int)) (
 .row [.int 1, (.bool false)]) (
 PG (.int (IntKind.wrap .i64 (v0 + (cl v4 v1 1).toInt))) (.int (IntKind.wrap .i64 (v1 + 1))) v2 v3 v4 v5))))) (
 Sw (.int v0) (.int 0) v2 v3 v4 v5) := gw rfl rfl rfl
theorem VN (v0 v1 : Int) (v2 v3 v4 v5 : D) : Sw (.int v0) (.int v1) v2 v3 v4 v5 =
  cond (v1 < len v3) (
 cond (v1 < 0) (
 .row []) (
 cond (40 < (Bw (cl v3 v1 0) : Int)) (
 .row [.int 1, (.bool false)]) (
 Sw (.int v0) (.int (IntKind.wrap .i64 (v1 + 1))) v2 v3 v4 v5))) (
 S4 (.int v0) (.int 0) v2 v3 v4 v5) := gw rfl rfl rfl
theorem Vf (v0 v1 : Int) (v2 v3 v4 v5 : D) : S4 (.int v0) (.int v1) v2 v3 v4 v5 =
  cond (v1 < len v5) (
 cond (v1 < 0) (
 .row []) (
 cond (40 < (Bw (cl v5 v1 0) : Int)) (
 .row [.int 1, (.bool false)]) (
 cond (40 < (Bw (cl v5 v1 1) : Int)) (
 .row [.int 1, (.bool false)]) (
 cond (40 < (Bw (cl v5 v1 3) : Int)) (
 .row [.int 1, (.bool false)]) (
 cond (40 < (Bw (cl v5 v1 4) : Int)) (
 .row [.int 1, (.bool false)]) (
 cond (40 < (Bw (cl v5 v1 5) : Int)) (
 .row [.int 1, (.bool false)]) (
 S4 (.int v0) (.int (IntKind.wrap .i64 (v1 + 1))) v2 v3 v4 v5))))))) (
 .row [.int 1, (.bool (!decide (30 < v0)))]) := gw rfl rfl rfl
theorem Yb : GX =
 .row [.int 1] := gw rfl rfl rfl
theorem XU (v0 : D) : Eb v0 =
  cond ((Bw v0 : Int) < 1) (
 .row [.int 1, (.bool false)]) (
 cond (32 < (Bw v0 : Int)) (
 .row [.int 1, (.bool false)]) (
 Ot (Tl v0) (.int (len (Tl v0) : Int)) (.int 0))) := gw rfl rfl rfl
theorem Wm (v0 : D) (v1 v2 : Int) : Ot v0 (.int v1) (.int v2) =
  cond (v2 < v1) (
 cond (v2 < 0) (
 .row []) (
 cond (v2 < len v0) (
 cond ((IntKind.wrap .u8 (cl v0 v2 0).toInt) < 97) (
 cond ((IntKind.wrap .u8 (cl v0 v2 0).toInt) < 65) (
 cond (v2 = 0) (
 .row [.int 1, (.bool false)]) (
 cond ((IntKind.wrap .u8 (cl v0 v2 0).toInt) < 48) (
 .row [.int 1, (.bool false)]) (
 cond (57 < (IntKind.wrap .u8 (cl v0 v2 0).toInt)) (
 .row [.int 1, (.bool false)]) (
 Ot v0 (.int v1) (.int (IntKind.wrap .i64 (v2 + 1))))))) (
 cond (90 < (IntKind.wrap .u8 (cl v0 v2 0).toInt)) (
 cond (v2 = 0) (
 .row [.int 1, (.bool false)]) (
 cond ((IntKind.wrap .u8 (cl v0 v2 0).toInt) = 95) (
 Ot v0 (.int v1) (.int (IntKind.wrap .i64 (v2 + 1)))) (
 .row [.int 1, (.bool false)]))) (
 Ot v0 (.int v1) (.int (IntKind.wrap .i64 (v2 + 1)))))) (
 cond (122 < (IntKind.wrap .u8 (cl v0 v2 0).toInt)) (
 cond (v2 = 0) (
 .row [.int 1, (.bool false)]) (
 .row [.int 1, (.bool false)])) (
 Ot v0 (.int v1) (.int (IntKind.wrap .i64 (v2 + 1)))))) (
 .row []))) (
 .row [.int 1, (.bool true)]) := gw rfl rfl (cL (cL rfl (cL (cL (cL (cQ rfl rfl) (cL (cQ rfl (cQ rfl rfl)) rfl)) (cL (cQ rfl rfl) rfl)) rfl)) rfl)
theorem XA (v0 v1 : D) : Ro v0 v1 =
 Tj v0 (.int 0) v1 := gw rfl rfl rfl
theorem XK (v0 : D) (v1 : Int) (v2 : D) : Tj v0 (.int v1) v2 =
  cond (v1 < len v0) (
 cond (v1 < 0) (
 .row []) (
 cond (D.strEq (cl v0 v1 0) v2) (
 .row [.int 1, (.int v1)]) (
 Tj v0 (.int (IntKind.wrap .i64 (v1 + 1))) v2))) (
 .row [.int 1, (.int (-1))]) := gw rfl rfl rfl
theorem Ym (v0 v1 v2 : Int) (v3 v4 v5 v6 : D) : P4 (.int v0) (.int v1) (.int v2) v3 v4 v5 v6 =
  cond (v0 < v1) (
 .row [.int 1, (.int 0)]) (
 cond (v2 < v0) (
 .row [.int 1, (.int v2)]) (
 Qv (.int v0) (.int 0) v3 v4 v5 v6)) := gw rfl rfl rfl
theorem Vt (v0 v1 : Int) (v2 v3 v4 v5 : D) : Qv (.int v0) (.int v1) v2 v3 v4 v5 =
  cond (v1 < v0) (
 cond (v1 < 0) (
 .row []) (
 cond (v1 < len v4) (
 cond ((sl (Eb (cl v4 v1 0)) 0).toInt = 1) (
 cond ((sl (Eb (cl v4 v1 0)) 1).toBool) (
 cond ((sl (Ro v4 (cl v4 v1 0)) 0).toInt = 1) (
 cond ((sl (Ro v4 (cl v4 v1 0)) 1).toInt < v1) (
 .row [.int 1, (.int v1)]) (
 cond ((cl v4 v1 1).toInt < 1) (
 .row [.int 1, (.int v1)]) (
 cond (1000 < (cl v4 v1 1).toInt) (
 .row [.int 1, (.int v1)]) (
 Qv (.int v0) (.int (IntKind.wrap .i64 (v1 + 1))) v2 v3 v4 v5)))) (
 .row [])) (
 .row [.int 1, (.int v1)])) (
 .row [])) (
 .row []))) (
 .row [.int 1, (.int (-1))]) := gw rfl rfl (cL (cL rfl (cL (cQ (cg rfl (cQ (cL rfl (cL rfl (cL rfl rfl))) rfl) rfl) rfl) rfl)) rfl)
theorem Yc (v0 v1 : D) : HU v0 v1 =
 Sv v0 (.int 0) v1 := gw rfl rfl rfl
theorem XP (v0 : D) (v1 : Int) (v2 : D) : Sv v0 (.int v1) v2 =
  cond (v1 < len v0) (
 cond (v1 < 0) (
 .row []) (
 cond (D.strEq (cl v0 v1 0) v2) (
 .row [.int 1, (.int v1)]) (
 Sv v0 (.int (IntKind.wrap .i64 (v1 + 1))) v2))) (
 .row [.int 1, (.int (-1))]) := gw rfl rfl rfl
theorem XY (v0 v1 v2 : Int) (v3 v4 v5 v6 : D) : P2 (.int v0) (.int v1) (.int v2) v3 v4 v5 v6 =
  cond (v0 < v1) (
 .row [.int 1, (.int 0)]) (
 cond (v2 < v0) (
 .row [.int 1, (.int v2)]) (
 PV (.int v0) (.int 0) v3 v4 v5 v6)) := gw rfl rfl rfl
theorem Xl (v0 v1 : Int) (v2 v3 v4 v5 : D) : PV (.int v0) (.int v1) v2 v3 v4 v5 =
  cond (v1 < v0) (
 cond (v1 < 0) (
 .row []) (
 cond (v1 < len v3) (
 cond ((sl (Eb (cl v3 v1 0)) 0).toInt = 1) (
 cond ((sl (Eb (cl v3 v1 0)) 1).toBool) (
 cond ((sl (HU v3 (cl v3 v1 0)) 0).toInt = 1) (
 cond ((sl (HU v3 (cl v3 v1 0)) 1).toInt < v1) (
 .row [.int 1, (.int v1)]) (
 cond ((cl v3 v1 2).toInt < 0) (
 .row [.int 1, (.int v1)]) (
 cond (1048576 < (cl v3 v1 2).toInt) (
 .row [.int 1, (.int v1)]) (
 PV (.int v0) (.int (IntKind.wrap .i64 (v1 + 1))) v2 v3 v4 v5)))) (
 .row [])) (
 .row [.int 1, (.int v1)])) (
 .row [])) (
 .row []))) (
 .row [.int 1, (.int (-1))]) := gw rfl rfl (cL (cL rfl (cL (cQ (cg rfl (cQ (cL rfl (cL rfl (cL rfl rfl))) rfl) rfl) rfl) rfl)) rfl)
theorem Yf (v0 v1 v2 : D) (v3 : Int) (v4 v5 v6 : D) (v7 v8 v9 : Int) : Uk v0 v1 v2 (.int v3) v4 v5 v6 (.int v7) (.int v8) (.int v9) =
 Qs v0 (.int 0) v1 v2 (.int v3) v4 v5 v6 (.int v7) (.int v8) (.int v9) := gw rfl rfl rfl
theorem WI (v0 : D) (v1 : Int) (v2 v3 : D) (v4 : Int) (v5 v6 v7 : D) (v8 v9 v10 : Int) : Qs v0 (.int v1) v2 v3 (.int v4) v5 v6 v7 (.int v8) (.int v9) (.int v10) =
  cond (v1 < len v0) (
 cond (v1 < 0) (
 .row []) (
 cond ((D.strEq v2 (cl v0 v1 0) && (D.strEq v3 (cl v0 v1 1) && (decide (v4 = (cl v0 v1 2).toInt) && (D.strEq v5 (cl v0 v1 3) && (D.strEq v6 (cl v0 v1 4) && (D.strEq v7 (cl v0 v1 5) && (decide (v8 = (cl v0 v1 6).toInt) && (decide (v9 = (cl v0 v1 7).toInt) && decide (v10 = (cl v0 v1 8).toInt)))))))))) (
 .row [.int 1, (.int v1)]) (
 Qs v0 (.int (IntKind.wrap .i64 (v1 + 1))) v2 v3 (.int v4) v5 v6 v7 (.int v8) (.int v9) (.int v10)))) (
 .row [.int 1, (.int (-1))]) := gw rfl rfl (cL (cL rfl (cg (aE rfl (aE rfl (aE (qE rfl rfl) (aE rfl (aE rfl (aE rfl (aE (qE rfl rfl) (aE (qE rfl rfl) (qE rfl rfl))))))))) rfl rfl)) rfl)
theorem Yp (v0 v1 v2 : Int) (v3 v4 v5 v6 : D) : Qr (.int v0) (.int v1) (.int v2) v3 v4 v5 v6 =
  cond (v0 < v1) (
 .row [.int 1, (.int 0)]) (
 cond (v2 < v0) (
 .row [.int 1, (.int v2)]) (
 GI (.int v0) (.int 0) v3 v4 v5 v6)) := gw rfl rfl rfl
theorem Wl (v0 v1 : Int) (v2 v3 v4 v5 : D) {F0 F1 F2 : D} (h0 : Uk (sb v5 0 v1) (cl v5 v1 0) (cl v5 v1 1) (cl v5 v1 2) (cl v5 v1 3) (cl v5 v1 4) (cl v5 v1 5) (cl v5 v1 6) (cl v5 v1 7) (cl v5 v1 8) = F0) (h1 : Ro v4 (cl v5 v1 5) = F1) (h2 : HU v3 (cl v5 v1 0) = F2) : GI (.int v0) (.int v1) v2 v3 v4 v5 =
  cond (v1 < v0) (
 cond (v1 < 0) (
 .row []) (
 cond (v1 < len v5) (
 cond ((cl v5 v1 2).toInt = 1) (
 cond ((sl F2 0).toInt = 1) (
 cond ((sl F1 0).toInt = 1) (
 cond ((sl F2 1).toInt < 0) (
 .row [.int 1, (.int v1)]) (
 cond ((sl (HU v3 (cl v5 v1 1)) 0).toInt = 1) (
 cond ((sl (HU v3 (cl v5 v1 1)) 1).toInt < 0) (
 .row [.int 1, (.int v1)]) (
 cond (len v5 < v1) (
 .row []) (
 cond ((sl F0 0).toInt = 1) (
 cond ((sl F0 1).toInt < 0) (
 cond ((sl F2 1).toInt < len v3) (
 cond ((sl (Eb (cl v5 v1 3)) 0).toInt = 1) (
 cond ((sl (Eb (cl v5 v1 3)) 1).toBool) (
 cond ((sl (Eb (cl v5 v1 4)) 0).toInt = 1) (
 cond ((sl (Eb (cl v5 v1 4)) 1).toBool) (
 cond (D.strEq (cl v5 v1 4) v2) (
 .row [.int 1, (.int v1)]) (
 cond (eqC (cl v5 v1 5) 0 0) (
 cond ((cl v5 v1 6).toInt = 0) (
 cond ((cl v5 v1 7).toInt = 0) (
 cond ((cl v5 v1 8).toInt = 0) (
 GI (.int v0) (.int (IntKind.wrap .i64 (v1 + 1))) v2 v3 v4 v5) (
 .row [.int 1, (.int v1)])) (
 .row [.int 1, (.int v1)])) (
 .row [.int 1, (.int v1)])) (
 cond ((sl F1 1).toInt < 0) (
 .row [.int 1, (.int v1)]) (
 cond ((cl v5 v1 6).toInt < 0) (
 .row [.int 1, (.int v1)]) (
 cond ((cl v5 v1 7).toInt < (cl v5 v1 6).toInt) (
 .row [.int 1, (.int v1)]) (
 cond ((cl v5 v1 8).toInt < (-1000)) (
 .row [.int 1, (.int v1)]) (
 cond (1000 < (cl v5 v1 8).toInt) (
 .row [.int 1, (.int v1)]) (
 cond ((sl F1 1).toInt < len v4) (
 cond ((cl v4 (sl F1 1).toInt 1).toInt < (cl v5 v1 7).toInt) (
 .row [.int 1, (.int v1)]) (
 cond ((IntKind.wrap .i64 ((cl v5 v1 6).toInt + (cl v5 v1 8).toInt)) < 0) (
 .row [.int 1, (.int v1)]) (
 cond ((cl v4 (sl F1 1).toInt 1).toInt < (IntKind.wrap .i64 ((cl v5 v1 7).toInt + (cl v5 v1 8).toInt))) (
 .row [.int 1, (.int v1)]) (
 GI (.int v0) (.int (IntKind.wrap .i64 (v1 + 1))) v2 v3 v4 v5)))) (
 .row []))))))))) (
 .row [.int 1, (.int v1)])) (
 .row [])) (
 .row [.int 1, (.int v1)])) (
 .row [])) (
 .row [])) (
 .row [.int 1, (.int v1)])) (
 .row [])))) (
 .row []))) (
 .row [])) (
 .row [])) (
 cond ((cl v5 v1 2).toInt = 2) (
 cond ((sl F2 0).toInt = 1) (
 cond ((sl F1 0).toInt = 1) (
 cond ((sl F2 1).toInt < 0) (
 .row [.int 1, (.int v1)]) (
 cond ((sl (HU v3 (cl v5 v1 1)) 0).toInt = 1) (
 cond ((sl (HU v3 (cl v5 v1 1)) 1).toInt < 0) (
 .row [.int 1, (.int v1)]) (
 cond (len v5 < v1) (
 .row []) (
 cond ((sl F0 0).toInt = 1) (
 cond ((sl F0 1).toInt < 0) (
 cond ((sl F2 1).toInt < len v3) (
 cond ((sl (Eb (cl v5 v1 3)) 0).toInt = 1) (
 cond ((sl (Eb (cl v5 v1 3)) 1).toBool) (
 cond ((sl (Eb (cl v5 v1 4)) 0).toInt = 1) (
 cond ((sl (Eb (cl v5 v1 4)) 1).toBool) (
 cond (D.strEq (cl v5 v1 4) v2) (
 .row [.int 1, (.int v1)]) (
 cond (eqC (cl v5 v1 5) 0 0) (
 cond ((cl v5 v1 6).toInt = 0) (
 cond ((cl v5 v1 7).toInt = 0) (
 cond ((cl v5 v1 8).toInt = 0) (
 GI (.int v0) (.int (IntKind.wrap .i64 (v1 + 1))) v2 v3 v4 v5) (
 .row [.int 1, (.int v1)])) (
 .row [.int 1, (.int v1)])) (
 .row [.int 1, (.int v1)])) (
 cond ((sl F1 1).toInt < 0) (
 .row [.int 1, (.int v1)]) (
 cond ((cl v5 v1 6).toInt < 0) (
 .row [.int 1, (.int v1)]) (
 cond ((cl v5 v1 7).toInt < (cl v5 v1 6).toInt) (
 .row [.int 1, (.int v1)]) (
 cond ((cl v5 v1 8).toInt < (-1000)) (
 .row [.int 1, (.int v1)]) (
 cond (1000 < (cl v5 v1 8).toInt) (
 .row [.int 1, (.int v1)]) (
 cond ((sl F1 1).toInt < len v4) (
 cond ((cl v4 (sl F1 1).toInt 1).toInt < (cl v5 v1 7).toInt) (
 .row [.int 1, (.int v1)]) (
 cond ((IntKind.wrap .i64 ((cl v5 v1 6).toInt + (cl v5 v1 8).toInt)) < 0) (
 .row [.int 1, (.int v1)]) (
 cond ((cl v4 (sl F1 1).toInt 1).toInt < (IntKind.wrap .i64 ((cl v5 v1 7).toInt + (cl v5 v1 8).toInt))) (
 .row [.int 1, (.int v1)]) (
 GI (.int v0) (.int (IntKind.wrap .i64 (v1 + 1))) v2 v3 v4 v5)))) (
 .row []))))))))) (
 .row [.int 1, (.int v1)])) (
 .row [])) (
 .row [.int 1, (.int v1)])) (
 .row [])) (
 .row [])) (
 .row [.int 1, (.int v1)])) (
 .row [])))) (
 .row []))) (
 .row [])) (
 .row [])) (
 cond ((cl v5 v1 2).toInt = 3) (
 cond ((sl F2 0).toInt = 1) (
 cond ((sl F1 0).toInt = 1) (
 cond ((sl F2 1).toInt < 0) (
 .row [.int 1, (.int v1)]) (
 cond ((sl (HU v3 (cl v5 v1 1)) 0).toInt = 1) (
 cond ((sl (HU v3 (cl v5 v1 1)) 1).toInt < 0) (
 .row [.int 1, (.int v1)]) (
 cond (len v5 < v1) (
 .row []) (
 cond ((sl F0 0).toInt = 1) (
 cond ((sl F0 1).toInt < 0) (
 cond ((sl F2 1).toInt < len v3) (
 cond (0 < (cl v3 (sl F2 1).toInt 2).toInt) (
 cond ((Bw (cl v5 v1 3) : Int) < 4611686018427387904) (
 cond ((Bw (cl v5 v1 4) : Int) < 4611686018427387904) (
 cond (eqC (Tf (cl v5 v1 3) (cl v5 v1 4)) 0 0) (
 cond (eqC (cl v5 v1 5) 0 0) (
 cond ((cl v5 v1 6).toInt = 0) (
 cond ((cl v5 v1 7).toInt = 0) (
 cond ((cl v5 v1 8).toInt = 0) (
 GI (.int v0) (.int (IntKind.wrap .i64 (v1 + 1))) v2 v3 v4 v5) (
 .row [.int 1, (.int v1)])) (
 .row [.int 1, (.int v1)])) (
 .row [.int 1, (.int v1)])) (
 cond ((sl F1 1).toInt < 0) (
 .row [.int 1, (.int v1)]) (
 cond ((cl v5 v1 6).toInt < 0) (
 .row [.int 1, (.int v1)]) (
 cond ((cl v5 v1 7).toInt < (cl v5 v1 6).toInt) (
 .row [.int 1, (.int v1)]) (
 cond ((cl v5 v1 8).toInt < (-1000)) (
 .row [.int 1, (.int v1)]) (
 cond (1000 < (cl v5 v1 8).toInt) (
 .row [.int 1, (.int v1)]) (
 cond ((sl F1 1).toInt < len v4) (
 cond ((cl v4 (sl F1 1).toInt 1).toInt < (cl v5 v1 7).toInt) (
 .row [.int 1, (.int v1)]) (
 cond ((IntKind.wrap .i64 ((cl v5 v1 6).toInt + (cl v5 v1 8).toInt)) < 0) (
 .row [.int 1, (.int v1)]) (
 cond ((cl v4 (sl F1 1).toInt 1).toInt < (IntKind.wrap .i64 ((cl v5 v1 7).toInt + (cl v5 v1 8).toInt))) (
 .row [.int 1, (.int v1)]) (
 GI (.int v0) (.int (IntKind.wrap .i64 (v1 + 1))) v2 v3 v4 v5)))) (
 .row [])))))))) (
 .row [.int 1, (.int v1)])) (
 .row [])) (
 .row [])) (
 .row [.int 1, (.int v1)])) (
 .row [])) (
 .row [.int 1, (.int v1)])) (
 .row [])))) (
 .row []))) (
 .row [])) (
 .row [])) (
 cond ((cl v5 v1 2).toInt = 4) (
 cond ((sl F2 0).toInt = 1) (
 cond ((sl F1 0).toInt = 1) (
 cond ((sl F2 1).toInt < 0) (
 .row [.int 1, (.int v1)]) (
 cond ((sl (HU v3 (cl v5 v1 1)) 0).toInt = 1) (
 cond ((sl (HU v3 (cl v5 v1 1)) 1).toInt < 0) (
 .row [.int 1, (.int v1)]) (
 cond (len v5 < v1) (
 .row []) (
 cond ((sl F0 0).toInt = 1) (
 cond ((sl F0 1).toInt < 0) (
 cond ((sl F2 1).toInt < len v3) (
 cond ((Bw (cl v5 v1 3) : Int) < 4611686018427387904) (
 cond ((Bw (cl v5 v1 4) : Int) < 4611686018427387904) (
 cond (eqC (Tf (cl v5 v1 3) (cl v5 v1 4)) 0 0) (
 cond (eqC (cl v5 v1 5) 0 0) (
 cond ((cl v5 v1 6).toInt = 0) (
 cond ((cl v5 v1 7).toInt = 0) (
 cond ((cl v5 v1 8).toInt = 0) (
 GI (.int v0) (.int (IntKind.wrap .i64 (v1 + 1))) v2 v3 v4 v5) (
 .row [.int 1, (.int v1)])) (
 .row [.int 1, (.int v1)])) (
 .row [.int 1, (.int v1)])) (
 cond ((sl F1 1).toInt < 0) (
 .row [.int 1, (.int v1)]) (
 cond ((cl v5 v1 6).toInt < 0) (
 .row [.int 1, (.int v1)]) (
 cond ((cl v5 v1 7).toInt < (cl v5 v1 6).toInt) (
 .row [.int 1, (.int v1)]) (
 cond ((cl v5 v1 8).toInt < (-1000)) (
 .row [.int 1, (.int v1)]) (
 cond (1000 < (cl v5 v1 8).toInt) (
 .row [.int 1, (.int v1)]) (
 cond ((sl F1 1).toInt < len v4) (
 cond ((cl v4 (sl F1 1).toInt 1).toInt < (cl v5 v1 7).toInt) (
 .row [.int 1, (.int v1)]) (
 cond ((IntKind.wrap .i64 ((cl v5 v1 6).toInt + (cl v5 v1 8).toInt)) < 0) (
 .row [.int 1, (.int v1)]) (
 cond ((cl v4 (sl F1 1).toInt 1).toInt < (IntKind.wrap .i64 ((cl v5 v1 7).toInt + (cl v5 v1 8).toInt))) (
 .row [.int 1, (.int v1)]) (
 GI (.int v0) (.int (IntKind.wrap .i64 (v1 + 1))) v2 v3 v4 v5)))) (
 .row [])))))))) (
 .row [.int 1, (.int v1)])) (
 .row [])) (
 .row [])) (
 .row [])) (
 .row [.int 1, (.int v1)])) (
 .row [])))) (
 .row []))) (
 .row [])) (
 .row [])) (
 cond ((sl F2 0).toInt = 1) (
 cond ((sl F1 0).toInt = 1) (
 .row [.int 1, (.int v1)]) (
 .row [])) (
 .row [])))))) (
 .row []))) (
 .row [.int 1, (.int (-1))]) := by
  subst h0; subst h1; subst h2; exact gw rfl rfl (cL (cL rfl (cL (cQ (cQ (cQ (cL rfl (cQ (cL rfl (cL rfl (cQ (cL (cL (cQ (cg rfl (cQ (cg rfl (cg rfl rfl (cg rfl (cQ (cQ (cQ rfl rfl) rfl) rfl) (cL rfl (cL rfl (cL rfl (cL rfl (cL rfl rfl))))))) rfl) rfl) rfl) rfl) rfl) rfl) rfl))) rfl)) rfl) rfl) (cQ (cQ (cQ (cL rfl (cQ (cL rfl (cL rfl (cQ (cL (cL (cQ (cg rfl (cQ (cg rfl (cg rfl rfl (cg rfl (cQ (cQ (cQ rfl rfl) rfl) rfl) (cL rfl (cL rfl (cL rfl (cL rfl (cL rfl rfl))))))) rfl) rfl) rfl) rfl) rfl) rfl) rfl))) rfl)) rfl) rfl) (cQ (cQ (cQ (cL rfl (cQ (cL rfl (cL rfl (cQ (cL (cL (cL (cL (cL (cg rfl (cg rfl (cQ (cQ (cQ rfl rfl) rfl) rfl) (cL rfl (cL rfl (cL rfl (cL rfl (cL rfl rfl)))))) rfl) rfl) rfl) rfl) rfl) rfl) rfl))) rfl)) rfl) rfl) (cQ (cQ (cQ (cL rfl (cQ (cL rfl (cL rfl (cQ (cL (cL (cL (cL (cg rfl (cg rfl (cQ (cQ (cQ rfl rfl) rfl) rfl) (cL rfl (cL rfl (cL rfl (cL rfl (cL rfl rfl)))))) rfl) rfl) rfl) rfl) rfl) rfl))) rfl)) rfl) rfl) (cQ (cQ rfl rfl) rfl))))) rfl)) rfl)
theorem XV (v0 v1 : D) : HO v0 v1 =
 SK v0 (.int 0) v1 := gw rfl rfl rfl
theorem XN (v0 : D) (v1 : Int) (v2 : D) : SK v0 (.int v1) v2 =
  cond (v1 < len v0) (
 cond (v1 < 0) (
 .row []) (
 cond (D.strEq (cl v0 v1 0) v2) (
 .row [.int 1, (.int v1)]) (
 SK v0 (.int (IntKind.wrap .i64 (v1 + 1))) v2))) (
 .row [.int 1, (.int (-1))]) := gw rfl rfl rfl
theorem WC (v0 v1 : D) : Ep v0 v1 =
 O7 v0 (.int 0) v1 := gw rfl rfl rfl
theorem Wu (v0 : D) (v1 : Int) (v2 : D) : O7 v0 (.int v1) v2 =
  cond (v1 < len v0) (
 cond (v1 < 0) (
 .row []) (
 cond (D.strEq (cl v0 v1 0) v2) (
 .row [.int 1, (.int v1)]) (
 O7 v0 (.int (IntKind.wrap .i64 (v1 + 1))) v2))) (
 .row [.int 1, (.int (-1))]) := gw rfl rfl rfl
theorem Wx (v0 v1 v2 v3 v4 v5 v6 v7 v8 v9 : D) : Fg v0 v1 v2 v3 v4 v5 v6 v7 v8 v9 =
  cond ((sl (Eb v0) 0).toInt = 1) (
 cond ((sl (Eb v0) 1).toBool) (
 cond ((sl (P4 (.int (len v2 : Int)) (.int 0) (.int 4) v0 v1 v2 v3) 0).toInt = 1) (
 cond ((sl (P4 (.int (len v2 : Int)) (.int 0) (.int 4) v0 v1 v2 v3) 1).toInt < 0) (
 cond ((sl (P2 (.int (len v1 : Int)) (.int 1) (.int 24) v0 v1 v2 v3) 0).toInt = 1) (
 cond ((sl (P2 (.int (len v1 : Int)) (.int 1) (.int 24) v0 v1 v2 v3) 1).toInt < 0) (
 cond ((sl (Qr (.int (len v3 : Int)) (.int 0) (.int 80) v0 v1 v2 v3) 0).toInt = 1) (
 cond ((sl (Qr (.int (len v3 : Int)) (.int 0) (.int 80) v0 v1 v2 v3) 1).toInt < 0) (
 cond ((sl (Eb v4) 0).toInt = 1) (
 cond ((sl (Eb v4) 1).toBool) (
 cond ((sl (P4 (.int (len v6 : Int)) (.int 0) (.int 4) v4 v5 v6 v7) 0).toInt = 1) (
 cond ((sl (P4 (.int (len v6 : Int)) (.int 0) (.int 4) v4 v5 v6 v7) 1).toInt < 0) (
 cond ((sl (P2 (.int (len v5 : Int)) (.int 1) (.int 24) v4 v5 v6 v7) 0).toInt = 1) (
 cond ((sl (P2 (.int (len v5 : Int)) (.int 1) (.int 24) v4 v5 v6 v7) 1).toInt < 0) (
 cond ((sl (Qr (.int (len v7 : Int)) (.int 0) (.int 80) v4 v5 v6 v7) 0).toInt = 1) (
 cond ((sl (Qr (.int (len v7 : Int)) (.int 0) (.int 80) v4 v5 v6 v7) 1).toInt < 0) (
 cond (24 < (len v8 : Int)) (
 .row [.int 1, (.int 24), (.int 490)]) (
 FD v0 v1 v2 v3 v4 v5 v6 v7 v8 v9 (.bool (decide (24 < (len v8 : Int)))) (.int 0) D6)) (
 .row [.int 1, (.int 0), (.int 2)])) (
 .row [])) (
 .row [.int 1, (.int 0), (.int 2)])) (
 .row [])) (
 .row [.int 1, (.int 0), (.int 2)])) (
 .row [])) (
 .row [.int 1, (.int 0), (.int 2)])) (
 .row [])) (
 .row [.int 1, (.int 0), (.int 2)])) (
 .row [])) (
 .row [.int 1, (.int 0), (.int 2)])) (
 .row [])) (
 .row [.int 1, (.int 0), (.int 2)])) (
 .row [])) (
 .row [.int 1, (.int 0), (.int 2)])) (
 .row []) := gw rfl rfl (cQ (cg rfl (cQ (cL (cQ (cL (cQ (cL (cQ (cg rfl (cQ (cL (cQ (cL (cQ rfl rfl) rfl) rfl) rfl) rfl) rfl) rfl) rfl) rfl) rfl) rfl) rfl) rfl) rfl) rfl)
theorem TS (v0 v1 v2 v3 v4 v5 v6 v7 v8 v9 : D) (v10 : Bool) (v11 : Int) (v12 : D) : FD v0 v1 v2 v3 v4 v5 v6 v7 v8 v9 (.bool v10) (.int v11) v12 =
  cond (v11 < len v8) (
 cond (v11 < 0) (
 .row []) (
 cond ((sl (HO v1 (cl v8 v11 0)) 0).toInt = 1) (
 cond ((sl (HO v1 (cl v8 v11 0)) 1).toInt < 0) (
 .row [.int 1, (.int v11), (.int 490)]) (
 cond ((sl (HO v5 (cl v8 v11 1)) 0).toInt = 1) (
 cond ((sl (HO v5 (cl v8 v11 1)) 1).toInt < 0) (
 .row [.int 1, (.int v11), (.int 490)]) (
 cond ((mIx [.str] v12 (.row [(cl v8 v11 0)])) < 0) (
 FD v0 v1 v2 v3 v4 v5 v6 v7 v8 v9 (.bool v10) (.int (IntKind.wrap .i64 (v11 + 1))) (ad v12 (.row [(cl v8 v11 0), (.bool true)]))) (
 cond ((cl v12 (mIx [.str] v12 (.row [(cl v8 v11 0)])) 1).toBool) (
 .row [.int 1, (.int v11), (.int 490)]) (
 FD v0 v1 v2 v3 v4 v5 v6 v7 v8 v9 (.bool v10) (.int (IntKind.wrap .i64 (v11 + 1))) (upd v12 (mIx [.str] v12 (.row [(cl v8 v11 0)])) 1 (.bool true)))))) (
 .row []))) (
 .row []))) (
 cond (4 < (len v9 : Int)) (
 .row [.int 1, (.int 4), (.int 491)]) (
 Dy v0 v1 v2 v3 v4 v5 v6 v7 v8 v9 (.bool v10) (.int v11) (.bool (decide (v11 < (len v8 : Int)))) (.bool (decide (4 < (len v9 : Int)))) (.int 0) D6)) := gw rfl rfl (cL (cL rfl (cQ (cL rfl (cQ rfl rfl)) rfl)) rfl)
theorem T4 (v0 v1 v2 v3 v4 v5 v6 v7 v8 v9 : D) (v10 : Bool) (v11 : Int) (v12 v13 : Bool) (v14 : Int) (v15 : D) : Dy v0 v1 v2 v3 v4 v5 v6 v7 v8 v9 (.bool v10) (.int v11) (.bool v12) (.bool v13) (.int v14) v15 =
  cond (v14 < len v9) (
 cond (v14 < 0) (
 .row []) (
 cond ((sl (Ep v6 (cl v9 v14 0)) 0).toInt = 1) (
 cond ((sl (Ep v6 (cl v9 v14 0)) 1).toInt < 0) (
 .row [.int 1, (.int v14), (.int 491)]) (
 cond (eqC (cl v9 v14 1) 0 0) (
 cond ((mIx [.str] v15 (.row [(cl v9 v14 0)])) < 0) (
 cond ((cl v9 v14 2).toInt < (IntKind.wrap .i64 (0 - (cl v9 v14 2).toInt))) (
 cond (1000 < (IntKind.wrap .i64 (0 - (cl v9 v14 2).toInt))) (
 .row [.int 1, (.int v14), (.int 491)]) (
 cond ((cl v9 v14 2).toInt < (-1000)) (
 .row [.int 1, (.int v14), (.int 491)]) (
 Dy v0 v1 v2 v3 v4 v5 v6 v7 v8 v9 (.bool v10) (.int v11) (.bool v12) (.bool v13) (.int (IntKind.wrap .i64 (v14 + 1))) (ad v15 (.row [(cl v9 v14 0), (.bool true)]))))) (
 cond (1000 < (cl v9 v14 2).toInt) (
 .row [.int 1, (.int v14), (.int 491)]) (
 cond ((cl v9 v14 2).toInt < (-1000)) (
 .row [.int 1, (.int v14), (.int 491)]) (
 Dy v0 v1 v2 v3 v4 v5 v6 v7 v8 v9 (.bool v10) (.int v11) (.bool v12) (.bool v13) (.int (IntKind.wrap .i64 (v14 + 1))) (ad v15 (.row [(cl v9 v14 0), (.bool true)])))))) (
 cond ((cl v15 (mIx [.str] v15 (.row [(cl v9 v14 0)])) 1).toBool) (
 .row [.int 1, (.int v14), (.int 491)]) (
 cond ((cl v9 v14 2).toInt < (IntKind.wrap .i64 (0 - (cl v9 v14 2).toInt))) (
 cond (1000 < (IntKind.wrap .i64 (0 - (cl v9 v14 2).toInt))) (
 .row [.int 1, (.int v14), (.int 491)]) (
 cond ((cl v9 v14 2).toInt < (-1000)) (
 .row [.int 1, (.int v14), (.int 491)]) (
 Dy v0 v1 v2 v3 v4 v5 v6 v7 v8 v9 (.bool v10) (.int v11) (.bool v12) (.bool v13) (.int (IntKind.wrap .i64 (v14 + 1))) (upd v15 (mIx [.str] v15 (.row [(cl v9 v14 0)])) 1 (.bool true))))) (
 cond (1000 < (cl v9 v14 2).toInt) (
 .row [.int 1, (.int v14), (.int 491)]) (
 cond ((cl v9 v14 2).toInt < (-1000)) (
 .row [.int 1, (.int v14), (.int 491)]) (
 Dy v0 v1 v2 v3 v4 v5 v6 v7 v8 v9 (.bool v10) (.int v11) (.bool v12) (.bool v13) (.int (IntKind.wrap .i64 (v14 + 1))) (upd v15 (mIx [.str] v15 (.row [(cl v9 v14 0)])) 1 (.bool true)))))))) (
 cond ((sl (Ep v2 (cl v9 v14 1)) 0).toInt = 1) (
 cond ((sl (Ep v2 (cl v9 v14 1)) 1).toInt < 0) (
 .row [.int 1, (.int v14), (.int 491)]) (
 cond ((mIx [.str] v15 (.row [(cl v9 v14 0)])) < 0) (
 cond ((cl v9 v14 2).toInt < (IntKind.wrap .i64 (0 - (cl v9 v14 2).toInt))) (
 cond (1000 < (IntKind.wrap .i64 (0 - (cl v9 v14 2).toInt))) (
 .row [.int 1, (.int v14), (.int 491)]) (
 cond ((cl v9 v14 2).toInt < (-1000)) (
 .row [.int 1, (.int v14), (.int 491)]) (
 Dy v0 v1 v2 v3 v4 v5 v6 v7 v8 v9 (.bool v10) (.int v11) (.bool v12) (.bool v13) (.int (IntKind.wrap .i64 (v14 + 1))) (ad v15 (.row [(cl v9 v14 0), (.bool true)]))))) (
 cond (1000 < (cl v9 v14 2).toInt) (
 .row [.int 1, (.int v14), (.int 491)]) (
 cond ((cl v9 v14 2).toInt < (-1000)) (
 .row [.int 1, (.int v14), (.int 491)]) (
 Dy v0 v1 v2 v3 v4 v5 v6 v7 v8 v9 (.bool v10) (.int v11) (.bool v12) (.bool v13) (.int (IntKind.wrap .i64 (v14 + 1))) (ad v15 (.row [(cl v9 v14 0), (.bool true)])))))) (
 cond ((cl v15 (mIx [.str] v15 (.row [(cl v9 v14 0)])) 1).toBool) (
 .row [.int 1, (.int v14), (.int 491)]) (
 cond ((cl v9 v14 2).toInt < (IntKind.wrap .i64 (0 - (cl v9 v14 2).toInt))) (
 cond (1000 < (IntKind.wrap .i64 (0 - (cl v9 v14 2).toInt))) (
 .row [.int 1, (.int v14), (.int 491)]) (
 cond ((cl v9 v14 2).toInt < (-1000)) (
 .row [.int 1, (.int v14), (.int 491)]) (
 Dy v0 v1 v2 v3 v4 v5 v6 v7 v8 v9 (.bool v10) (.int v11) (.bool v12) (.bool v13) (.int (IntKind.wrap .i64 (v14 + 1))) (upd v15 (mIx [.str] v15 (.row [(cl v9 v14 0)])) 1 (.bool true))))) (
 cond (1000 < (cl v9 v14 2).toInt) (
 .row [.int 1, (.int v14), (.int 491)]) (
 cond ((cl v9 v14 2).toInt < (-1000)) (
 .row [.int 1, (.int v14), (.int 491)]) (
 Dy v0 v1 v2 v3 v4 v5 v6 v7 v8 v9 (.bool v10) (.int v11) (.bool v12) (.bool v13) (.int (IntKind.wrap .i64 (v14 + 1))) (upd v15 (mIx [.str] v15 (.row [(cl v9 v14 0)])) 1 (.bool true))))))))) (
 .row [])))) (
 .row []))) (
 .row [.int 1, (.int 0), (.int 0)]) := gw rfl rfl (cL (cL rfl (cQ (cL rfl (cg rfl (cL (cL (cL rfl (cL rfl rfl)) (cL rfl (cL rfl rfl))) (cg rfl rfl (cL (cL rfl (cL rfl rfl)) (cL rfl (cL rfl rfl))))) (cQ (cL rfl (cL (cL (cL rfl (cL rfl rfl)) (cL rfl (cL rfl rfl))) (cg rfl rfl (cL (cL rfl (cL rfl rfl)) (cL rfl (cL rfl rfl)))))) rfl))) rfl)) rfl)
theorem Ww (v0 v1 v2 : D) (v3 : Int) : Iw v0 v1 v2 (.int v3) =
 OL v0 (.int 0) v1 v2 (.int v3) := gw rfl rfl rfl
theorem WJ (v0 : D) (v1 : Int) (v2 v3 : D) (v4 : Int) : OL v0 (.int v1) v2 v3 (.int v4) =
  cond (v1 < len v0) (
 cond (v1 < 0) (
 .row []) (
 cond (D.strEq (cl v0 v1 0) v3) (
 .row [.int 1, (.int v1)]) (
 OL v0 (.int (IntKind.wrap .i64 (v1 + 1))) v2 v3 (.int v4)))) (
 .row [.int 1, (.int (-1))]) := gw rfl rfl rfl
theorem WY (v0 v1 : D) : MD v0 v1 =
 In v0 E5 (.bool true) v1 (.int 0) := gw rfl rfl rfl
theorem T2 (v0 v1 : D) (v2 : Bool) (v3 : D) (v4 : Int) : In v0 v1 (.bool v2) v3 (.int v4) =
  cond (v4 < len v3) (
 cond (v4 < 0) (
 .row []) (
 cond ((sl (Iw v0 (cl v3 v4 0) (cl v3 v4 1) (cl v3 v4 2)) 0).toInt = 1) (
 cond ((sl (Iw v0 (cl v3 v4 0) (cl v3 v4 1) (cl v3 v4 2)) 1).toInt < 0) (
 cond ((len v1 : Int) < 1073741824) (
 In v0 (ad v1 (.row [(cl v3 v4 0), (Fo 0 0), (cl v3 v4 2)])) (.bool false) v3 (.int (IntKind.wrap .i64 (v4 + 1)))) (
 .row [])) (
 cond ((sl (Iw v0 (cl v3 v4 0) (cl v3 v4 1) (cl v3 v4 2)) 1).toInt < len v0) (
 cond ((len v1 : Int) < 1073741824) (
 In v0 (ad v1 (.row [(cl v3 v4 0), (cl v0 (sl (Iw v0 (cl v3 v4 0) (cl v3 v4 1) (cl v3 v4 2)) 1).toInt 1), (.int (IntKind.wrap .i64 ((cl v3 v4 2).toInt + (cl v0 (sl (Iw v0 (cl v3 v4 0) (cl v3 v4 1) (cl v3 v4 2)) 1).toInt 2).toInt)))])) (.bool false) v3 (.int (IntKind.wrap .i64 (v4 + 1)))) (
 .row [])) (
 .row []))) (
 .row []))) (
 .row [.int 1, v1, (.bool v2)]) := gw rfl rfl (cL (cL rfl (cQ (cL (cL rfl rfl) (cL (cL rfl rfl) rfl)) rfl)) rfl)
theorem Vz (v0 v1 v2 : D) : Lh v0 v1 v2 =
 OW v0 (.int 0) v1 v2 := gw rfl rfl rfl
theorem W0 (v0 : D) (v1 : Int) (v2 v3 : D) : OW v0 (.int v1) v2 v3 =
  cond (v1 < len v0) (
 cond (v1 < 0) (
 .row []) (
 cond (D.strEq (cl v0 v1 0) v3) (
 .row [.int 1, (.int v1)]) (
 OW v0 (.int (IntKind.wrap .i64 (v1 + 1))) v2 v3))) (
 .row [.int 1, (.int (-1))]) := gw rfl rfl rfl
theorem Wg (v0 : D) (v1 : Bool) : OT v0 (.bool v1) =
 H7 v0 (.bool v1) (.int 0) := gw rfl rfl rfl
theorem TP (v0 : D) (v1 : Bool) (v2 : Int) : H7 v0 (.bool v1) (.int v2) =
  cond (v2 < len v0) (
 cond (v2 < 0) (
 .row []) (
 cond ((cl v0 v2 2).toInt < (IntKind.wrap .i64 (0 - (cl v0 v2 2).toInt))) (
 cond (1000 < (IntKind.wrap .i64 (0 - (cl v0 v2 2).toInt))) (
 .row [.int 1, (.int v2)]) (
 H7 v0 (.bool v1) (.int (IntKind.wrap .i64 (v2 + 1))))) (
 cond (1000 < (cl v0 v2 2).toInt) (
 .row [.int 1, (.int v2)]) (
 H7 v0 (.bool v1) (.int (IntKind.wrap .i64 (v2 + 1))))))) (
 .row [.int 1, (.int (-1))]) := gw rfl rfl (cL (cL rfl (cL (cL rfl rfl) (cL rfl rfl))) rfl)
theorem Va (v0 v1 v2 v3 v4 v5 v6 v7 v8 v9 v10 v11 v12 v13 v14 v15 : D) : A3 v0 v1 v2 v3 v4 v5 v6 v7 v8 v9 v10 v11 v12 v13 v14 v15 =
  cond ((sl (Fg v0 v1 v2 v3 v4 v5 v6 v7 v12 v13) 0).toInt = 1) (
 cond ((sl (Fg v0 v1 v2 v3 v4 v5 v6 v7 v12 v13) 2).toInt = 0) (
 cond ((sl (Fg v4 v5 v6 v7 v8 v9 v10 v11 v14 v15) 0).toInt = 1) (
 cond ((sl (Fg v4 v5 v6 v7 v8 v9 v10 v11 v14 v15) 2).toInt = 0) (
 cond ((sl (MD v13 v15) 0).toInt = 1) (
 Gf v12 (.int 0) v14 v15 E5 (.bool true) (sl (MD v13 v15) 1) (sl (MD v13 v15) 2)) (
 .row [])) (
 .row [.int 1, E5, (.bool true), E5, (.bool true), (sl (Fg v4 v5 v6 v7 v8 v9 v10 v11 v14 v15) 2)])) (
 .row [])) (
 .row [.int 1, E5, (.bool true), E5, (.bool true), (sl (Fg v0 v1 v2 v3 v4 v5 v6 v7 v12 v13) 2)])) (
 .row []) := gw rfl rfl (cQ (cQ (cQ (cQ (cQ rfl rfl) rfl) rfl) rfl) rfl)
theorem T5 (v0 : D) (v1 : Int) (v2 v3 v4 : D) (v5 : Bool) (v6 : D) (v7 : Bool) : Gf v0 (.int v1) v2 v3 v4 (.bool v5) v6 (.bool v7) =
  cond (v1 < len v0) (
 cond (v1 < 0) (
 .row []) (
 cond ((sl (Lh v2 (cl v0 v1 0) (cl v0 v1 1)) 0).toInt = 1) (
 cond ((sl (Lh v2 (cl v0 v1 0) (cl v0 v1 1)) 1).toInt < 0) (
 Gf v0 (.int (IntKind.wrap .i64 (v1 + 1))) v2 v3 v4 (.bool v5) v6 (.bool v7)) (
 cond ((sl (Lh v2 (cl v0 v1 0) (cl v0 v1 1)) 1).toInt < len v2) (
 cond ((len v4 : Int) < 1073741824) (
 Gf v0 (.int (IntKind.wrap .i64 (v1 + 1))) v2 v3 (ad v4 (.row [(cl v0 v1 0), (cl v2 (sl (Lh v2 (cl v0 v1 0) (cl v0 v1 1)) 1).toInt 1)])) (.bool false) v6 (.bool v7)) (
 .row [])) (
 .row []))) (
 .row []))) (
 cond ((sl (OT v6 (.bool v7)) 0).toInt = 1) (
 cond ((sl (OT v6 (.bool v7)) 1).toInt < 0) (
 .row [.int 1, v4, (.bool v5), v6, (.bool v7), (.int 0)]) (
 .row [.int 1, E5, (.bool true), E5, (.bool true), (.int 3)])) (
 .row [])) := gw rfl rfl (cL (cL rfl (cQ (cL rfl (cL (cL rfl rfl) rfl)) rfl)) (cQ rfl rfl))
theorem VJ (v0 v1 v2 v3 v4 v5 : D) : Aj v0 v1 v2 v3 v4 v5 =
  cond ((sl (HO v1 v4) 0).toInt = 1) (
 cond ((sl (HO v1 v4) 1).toInt < 0) (
 .row [.int 1, (sl (HO v1 v4) 1), (.int 0), (.int 0), (.int 0), (.int 0), (.bool false)]) (
 cond ((len v5 : Int) = (len v2 : Int)) (
 Iu v5 (.int 0) v0 v1 v2 v3 v4 (sl (HO v1 v4) 1)) (
 .row [.int 1, (sl (HO v1 v4) 1), (.int 0), (.int 0), (.int 0), (.int 0), (.bool false)]))) (
 .row []) := gw rfl rfl (cQ (cL rfl (cQ rfl rfl)) rfl)
theorem TL (v0 : D) (v1 : Int) (v2 v3 v4 v5 v6 : D) (v7 : Int) : Iu v0 (.int v1) v2 v3 v4 v5 v6 (.int v7) =
  cond (v1 < len v0) (
 cond (v1 < 0) (
 .row []) (
 cond ((cl v0 v1 0).toInt < 0) (
 .row [.int 1, (.int v7), (.int 0), (.int 0), (.int 0), (.int 0), (.bool false)]) (
 cond (v1 < len v4) (
 cond ((cl v4 v1 1).toInt < (cl v0 v1 0).toInt) (
 .row [.int 1, (.int v7), (.int 0), (.int 0), (.int 0), (.int 0), (.bool false)]) (
 Iu v0 (.int (IntKind.wrap .i64 (v1 + 1))) v2 v3 v4 v5 v6 (.int v7))) (
 .row [])))) (
 cond ((len v0 : Int) < 4) (
 cond ((len v0 : Int) = 0) (
 .row [.int 1, (.int v7), (.int 0), (.int 0), (.int 0), (.int 0), (.bool true)]) (
 cond ((len v0 : Int) = 1) (
 .row [.int 1, (.int v7), (cl v0 0 0), (.int 0), (.int 0), (.int 0), (.bool true)]) (
 cond ((len v0 : Int) = 2) (
 .row [.int 1, (.int v7), (cl v0 0 0), (cl v0 1 0), (.int 0), (.int 0), (.bool true)]) (
 cond ((len v0 : Int) = 3) (
 .row [.int 1, (.int v7), (cl v0 0 0), (cl v0 1 0), (cl v0 2 0), (.int 0), (.bool true)]) (
 .row []))))) (
 .row [.int 1, (.int v7), (cl v0 0 0), (cl v0 1 0), (cl v0 2 0), (cl v0 3 0), (.bool true)])) := gw rfl rfl (cL rfl (cL (cQ rfl (cQ rfl (cQ rfl (cQ rfl rfl)))) rfl))
theorem WN (v0 v1 v2 v3 v4 : D) (v5 v6 v7 v8 v9 : Int) : J5 v0 v1 v2 v3 v4 (.int v5) (.int v6) (.int v7) (.int v8) (.int v9) =
 KL v0 (.int 0) v1 v2 v3 v4 (.int v5) (.int v6) (.int v7) (.int v8) (.int v9) := gw rfl rfl rfl
theorem TK (v0 : D) (v1 : Int) (v2 v3 v4 v5 : D) (v6 v7 v8 v9 v10 : Int) : KL v0 (.int v1) v2 v3 v4 v5 (.int v6) (.int v7) (.int v8) (.int v9) (.int v10) =
  cond (v1 < len v0) (
 cond (v1 < 0) (
 .row []) (
 cond (v6 < 0) (
 .row []) (
 cond (v6 < len v3) (
 cond (D.strEq (cl v0 v1 0) (cl v3 v6 0)) (
 .row [.int 1, (.int v1)]) (
 KL v0 (.int (IntKind.wrap .i64 (v1 + 1))) v2 v3 v4 v5 (.int v6) (.int v7) (.int v8) (.int v9) (.int v10))) (
 .row [])))) (
 .row [.int 1, (.int (-1))]) := gw rfl rfl rfl
theorem V9 (v0 v1 v2 v3 v4 v5 v6 v7 v8 v9 : D) (v10 v11 v12 v13 v14 : Int) : B4 v0 v1 v2 v3 v4 v5 v6 v7 v8 v9 (.int v10) (.int v11) (.int v12) (.int v13) (.int v14) =
  cond ((sl (J5 v8 v0 v1 v2 v3 (.int v10) (.int v11) (.int v12) (.int v13) (.int v14)) 0).toInt = 1) (
 cond ((sl (J5 v8 v0 v1 v2 v3 (.int v10) (.int v11) (.int v12) (.int v13) (.int v14)) 1).toInt < 0) (
 .row [.int 1, (.int 0), (.int 0), (.int 0), (.int 0), (.int 0), (.int 9)]) (
 cond ((sl (J5 v8 v0 v1 v2 v3 (.int v10) (.int v11) (.int v12) (.int v13) (.int v14)) 1).toInt < len v8) (
 cond ((sl (HO v5 (cl v8 (sl (J5 v8 v0 v1 v2 v3 (.int v10) (.int v11) (.int v12) (.int v13) (.int v14)) 1).toInt 1)) 0).toInt = 1) (
 Bo v9 (.int 0) v0 v1 v2 v3 v4 v5 v6 v7 (.int v10) (.int v11) (.int v12) (.int v13) (.int v14) (sl (HO v5 (cl v8 (sl (J5 v8 v0 v1 v2 v3 (.int v10) (.int v11) (.int v12) (.int v13) (.int v14)) 1).toInt 1)) 1) (.int 0) (.int 0) (.int 0) (.int 0)) (
 .row [])) (
 .row []))) (
 .row []) := gw rfl rfl (cQ (cL rfl (cL (cQ rfl rfl) rfl)) rfl)
theorem TY (v0 : D) (v1 : Int) (v2 v3 v4 v5 v6 v7 v8 v9 : D) (v10 v11 v12 v13 v14 v15 v16 v17 v18 v19 : Int) {F0 : D} (h0 : Ep v8 (cl v0 v1 0) = F0) : Bo v0 (.int v1) v2 v3 v4 v5 v6 v7 v8 v9 (.int v10) (.int v11) (.int v12) (.int v13) (.int v14) (.int v15) (.int v16) (.int v17) (.int v18) (.int v19) =
  cond (v1 < len v0) (
 cond (v1 < 0) (
 .row []) (
 cond ((sl F0 0).toInt = 1) (
 cond ((sl (Ep v4 (cl v0 v1 1)) 0).toInt = 1) (
 cond ((sl (Ep v4 (cl v0 v1 1)) 1).toInt < 0) (
 cond ((cl v0 v1 2).toInt < 0) (
 .row [.int 1, (.int 0), (.int 0), (.int 0), (.int 0), (.int 0), (.int 3)]) (
 cond ((sl F0 1).toInt < 0) (
 .row []) (
 cond ((sl F0 1).toInt < len v8) (
 cond ((cl v8 (sl F0 1).toInt 1).toInt < (cl v0 v1 2).toInt) (
 .row [.int 1, (.int 0), (.int 0), (.int 0), (.int 0), (.int 0), (.int 3)]) (
 cond ((sl F0 1).toInt = 0) (
 Bo v0 (.int (IntKind.wrap .i64 (v1 + 1))) v2 v3 v4 v5 v6 v7 v8 v9 (.int v10) (.int v11) (.int v12) (.int v13) (.int v14) (.int v15) (cl v0 v1 2) (.int v17) (.int v18) (.int v19)) (
 cond ((sl F0 1).toInt = 1) (
 Bo v0 (.int (IntKind.wrap .i64 (v1 + 1))) v2 v3 v4 v5 v6 v7 v8 v9 (.int v10) (.int v11) (.int v12) (.int v13) (.int v14) (.int v15) (.int v16) (cl v0 v1 2) (.int v18) (.int v19)) (
 cond ((sl F0 1).toInt = 2) (
 Bo v0 (.int (IntKind.wrap .i64 (v1 + 1))) v2 v3 v4 v5 v6 v7 v8 v9 (.int v10) (.int v11) (.int v12) (.int v13) (.int v14) (.int v15) (.int v16) (.int v17) (cl v0 v1 2) (.int v19)) (
 cond ((sl F0 1).toInt = 3) (
 Bo v0 (.int (IntKind.wrap .i64 (v1 + 1))) v2 v3 v4 v5 v6 v7 v8 v9 (.int v10) (.int v11) (.int v12) (.int v13) (.int v14) (.int v15) (.int v16) (.int v17) (.int v18) (cl v0 v1 2)) (
 .row [])))))) (
 .row [])))) (
 cond ((sl (Ep v4 (cl v0 v1 1)) 1).toInt = 0) (
 cond ((IntKind.wrap .i64 ((cl v0 v1 2).toInt + v11)) < 0) (
 .row [.int 1, (.int 0), (.int 0), (.int 0), (.int 0), (.int 0), (.int 3)]) (
 cond ((sl F0 1).toInt < 0) (
 .row []) (
 cond ((sl F0 1).toInt < len v8) (
 cond ((cl v8 (sl F0 1).toInt 1).toInt < (IntKind.wrap .i64 ((cl v0 v1 2).toInt + v11))) (
 .row [.int 1, (.int 0), (.int 0), (.int 0), (.int 0), (.int 0), (.int 3)]) (
 cond ((sl F0 1).toInt = 0) (
 Bo v0 (.int (IntKind.wrap .i64 (v1 + 1))) v2 v3 v4 v5 v6 v7 v8 v9 (.int v10) (.int v11) (.int v12) (.int v13) (.int v14) (.int v15) (.int (IntKind.wrap .i64 ((cl v0 v1 2).toInt + v11))) (.int v17) (.int v18) (.int v19)) (
 cond ((sl F0 1).toInt = 1) (
 Bo v0 (.int (IntKind.wrap .i64 (v1 + 1))) v2 v3 v4 v5 v6 v7 v8 v9 (.int v10) (.int v11) (.int v12) (.int v13) (.int v14) (.int v15) (.int v16) (.int (IntKind.wrap .i64 ((cl v0 v1 2).toInt + v11))) (.int v18) (.int v19)) (
 cond ((sl F0 1).toInt = 2) (
 Bo v0 (.int (IntKind.wrap .i64 (v1 + 1))) v2 v3 v4 v5 v6 v7 v8 v9 (.int v10) (.int v11) (.int v12) (.int v13) (.int v14) (.int v15) (.int v16) (.int v17) (.int (IntKind.wrap .i64 ((cl v0 v1 2).toInt + v11))) (.int v19)) (
 cond ((sl F0 1).toInt = 3) (
 Bo v0 (.int (IntKind.wrap .i64 (v1 + 1))) v2 v3 v4 v5 v6 v7 v8 v9 (.int v10) (.int v11) (.int v12) (.int v13) (.int v14) (.int v15) (.int v16) (.int v17) (.int v18) (.int (IntKind.wrap .i64 ((cl v0 v1 2).toInt + v11)))) (
 .row [])))))) (
 .row [])))) (
 cond ((sl (Ep v4 (cl v0 v1 1)) 1).toInt = 1) (
 cond ((IntKind.wrap .i64 ((cl v0 v1 2).toInt + v12)) < 0) (
 .row [.int 1, (.int 0), (.int 0), (.int 0), (.int 0), (.int 0), (.int 3)]) (
 cond ((sl F0 1).toInt < 0) (
 .row []) (
 cond ((sl F0 1).toInt < len v8) (
 cond ((cl v8 (sl F0 1).toInt 1).toInt < (IntKind.wrap .i64 ((cl v0 v1 2).toInt + v12))) (
 .row [.int 1, (.int 0), (.int 0), (.int 0), (.int 0), (.int 0), (.int 3)]) (
 cond ((sl F0 1).toInt = 0) (
 Bo v0 (.int (IntKind.wrap .i64 (v1 + 1))) v2 v3 v4 v5 v6 v7 v8 v9 (.int v10) (.int v11) (.int v12) (.int v13) (.int v14) (.int v15) (.int (IntKind.wrap .i64 ((cl v0 v1 2).toInt + v12))) (.int v17) (.int v18) (.int v19)) (
 cond ((sl F0 1).toInt = 1) (
 Bo v0 (.int (IntKind.wrap .i64 (v1 + 1))) v2 v3 v4 v5 v6 v7 v8 v9 (.int v10) (.int v11) (.int v12) (.int v13) (.int v14) (.int v15) (.int v16) (.int (IntKind.wrap .i64 ((cl v0 v1 2).toInt + v12))) (.int v18) (.int v19)) (
 cond ((sl F0 1).toInt = 2) (
 Bo v0 (.int (IntKind.wrap .i64 (v1 + 1))) v2 v3 v4 v5 v6 v7 v8 v9 (.int v10) (.int v11) (.int v12) (.int v13) (.int v14) (.int v15) (.int v16) (.int v17) (.int (IntKind.wrap .i64 ((cl v0 v1 2).toInt + v12))) (.int v19)) (
 cond ((sl F0 1).toInt = 3) (
 Bo v0 (.int (IntKind.wrap .i64 (v1 + 1))) v2 v3 v4 v5 v6 v7 v8 v9 (.int v10) (.int v11) (.int v12) (.int v13) (.int v14) (.int v15) (.int v16) (.int v17) (.int v18) (.int (IntKind.wrap .i64 ((cl v0 v1 2).toInt + v12)))) (
 .row [])))))) (
 .row [])))) (
 cond ((sl (Ep v4 (cl v0 v1 1)) 1).toInt = 2) (
 cond ((IntKind.wrap .i64 ((cl v0 v1 2).toInt + v13)) < 0) (
 .row [.int 1, (.int 0), (.int 0), (.int 0), (.int 0), (.int 0), (.int 3)]) (
 cond ((sl F0 1).toInt < 0) (
 .row []) (
 cond ((sl F0 1).toInt < len v8) (
 cond ((cl v8 (sl F0 1).toInt 1).toInt < (IntKind.wrap .i64 ((cl v0 v1 2).toInt + v13))) (
 .row [.int 1, (.int 0), (.int 0), (.int 0), (.int 0), (.int 0), (.int 3)]) (
 cond ((sl F0 1).toInt = 0) (
 Bo v0 (.int (IntKind.wrap .i64 (v1 + 1))) v2 v3 v4 v5 v6 v7 v8 v9 (.int v10) (.int v11) (.int v12) (.int v13) (.int v14) (.int v15) (.int (IntKind.wrap .i64 ((cl v0 v1 2).toInt + v13))) (.int v17) (.int v18) (.int v19)) (
 cond ((sl F0 1).toInt = 1) (
 Bo v0 (.int (IntKind.wrap .i64 (v1 + 1))) v2 v3 v4 v5 v6 v7 v8 v9 (.int v10) (.int v11) (.int v12) (.int v13) (.int v14) (.int v15) (.int v16) (.int (IntKind.wrap .i64 ((cl v0 v1 2).toInt + v13))) (.int v18) (.int v19)) (
 cond ((sl F0 1).toInt = 2) (
 Bo v0 (.int (IntKind.wrap .i64 (v1 + 1))) v2 v3 v4 v5 v6 v7 v8 v9 (.int v10) (.int v11) (.int v12) (.int v13) (.int v14) (.int v15) (.int v16) (.int v17) (.int (IntKind.wrap .i64 ((cl v0 v1 2).toInt + v13))) (.int v19)) (
 cond ((sl F0 1).toInt = 3) (
 Bo v0 (.int (IntKind.wrap .i64 (v1 + 1))) v2 v3 v4 v5 v6 v7 v8 v9 (.int v10) (.int v11) (.int v12) (.int v13) (.int v14) (.int v15) (.int v16) (.int v17) (.int v18) (.int (IntKind.wrap .i64 ((cl v0 v1 2).toInt + v13)))) (
 .row [])))))) (
 .row [])))) (
 cond ((sl (Ep v4 (cl v0 v1 1)) 1).toInt = 3) (
 cond ((IntKind.wrap .i64 ((cl v0 v1 2).toInt + v14)) < 0) (
 .row [.int 1, (.int 0), (.int 0), (.int 0), (.int 0), (.int 0), (.int 3)]) (
 cond ((sl F0 1).toInt < 0) (
 .row []) (
 cond ((sl F0 1).toInt < len v8) (
 cond ((cl v8 (sl F0 1).toInt 1).toInt < (IntKind.wrap .i64 ((cl v0 v1 2).toInt + v14))) (
 .row [.int 1, (.int 0), (.int 0), (.int 0), (.int 0), (.int 0), (.int 3)]) (
 cond ((sl F0 1).toInt = 0) (
 Bo v0 (.int (IntKind.wrap .i64 (v1 + 1))) v2 v3 v4 v5 v6 v7 v8 v9 (.int v10) (.int v11) (.int v12) (.int v13) (.int v14) (.int v15) (.int (IntKind.wrap .i64 ((cl v0 v1 2).toInt + v14))) (.int v17) (.int v18) (.int v19)) (
 cond ((sl F0 1).toInt = 1) (
 Bo v0 (.int (IntKind.wrap .i64 (v1 + 1))) v2 v3 v4 v5 v6 v7 v8 v9 (.int v10) (.int v11) (.int v12) (.int v13) (.int v14) (.int v15) (.int v16) (.int (IntKind.wrap .i64 ((cl v0 v1 2).toInt + v14))) (.int v18) (.int v19)) (
 cond ((sl F0 1).toInt = 2) (
 Bo v0 (.int (IntKind.wrap .i64 (v1 + 1))) v2 v3 v4 v5 v6 v7 v8 v9 (.int v10) (.int v11) (.int v12) (.int v13) (.int v14) (.int v15) (.int v16) (.int v17) (.int (IntKind.wrap .i64 ((cl v0 v1 2).toInt + v14))) (.int v19)) (
 cond ((sl F0 1).toInt = 3) (
 Bo v0 (.int (IntKind.wrap .i64 (v1 + 1))) v2 v3 v4 v5 v6 v7 v8 v9 (.int v10) (.int v11) (.int v12) (.int v13) (.int v14) (.int v15) (.int v16) (.int v17) (.int v18) (.int (IntKind.wrap .i64 ((cl v0 v1 2).toInt + v14)))) (
 .row [])))))) (
 .row [])))) (
 .row [])))))) (
 .row [])) (
 .row []))) (
 .row [.int 1, (.int v15), (.int v16), (.int v17), (.int v18), (.int v19), (.int 0)]) := by
  subst h0; exact gw rfl rfl (cL (cL rfl (cQ (cQ (cL (cL rfl (cL rfl (cL (cL rfl (cQ rfl (cQ rfl (cQ rfl (cQ rfl rfl))))) rfl))) (cQ (cL rfl (cL rfl (cL (cL rfl (cQ rfl (cQ rfl (cQ rfl (cQ rfl rfl))))) rfl))) (cQ (cL rfl (cL rfl (cL (cL rfl (cQ rfl (cQ rfl (cQ rfl (cQ rfl rfl))))) rfl))) (cQ (cL rfl (cL rfl (cL (cL rfl (cQ rfl (cQ rfl (cQ rfl (cQ rfl rfl))))) rfl))) (cQ (cL rfl (cL rfl (cL (cL rfl (cQ rfl (cQ rfl (cQ rfl (cQ rfl rfl))))) rfl))) rfl))))) rfl) rfl)) rfl)
theorem U6 (v0 v1 v2 v3 v4 v5 v6 v7 v8 v9 v10 v11 : D) : AQ v0 v1 v2 v3 v4 v5 v6 v7 v8 v9 v10 v11 =
  cond ((sl (Fg v0 v1 v2 v3 v4 v5 v6 v7 v8 v9) 0).toInt = 1) (
 cond ((sl (Fg v0 v1 v2 v3 v4 v5 v6 v7 v8 v9) 2).toInt = 0) (
 cond ((sl (Aj v0 v1 v2 v3 v10 v11) 0).toInt = 1) (
 cond ((sl (Aj v0 v1 v2 v3 v10 v11) 6).toBool) (
 cond ((sl (B4 v0 v1 v2 v3 v4 v5 v6 v7 v8 v9 (sl (Aj v0 v1 v2 v3 v10 v11) 1) (sl (Aj v0 v1 v2 v3 v10 v11) 2) (sl (Aj v0 v1 v2 v3 v10 v11) 3) (sl (Aj v0 v1 v2 v3 v10 v11) 4) (sl (Aj v0 v1 v2 v3 v10 v11) 5)) 0).toInt = 1) (
 cond ((sl (B4 v0 v1 v2 v3 v4 v5 v6 v7 v8 v9 (sl (Aj v0 v1 v2 v3 v10 v11) 1) (sl (Aj v0 v1 v2 v3 v10 v11) 2) (sl (Aj v0 v1 v2 v3 v10 v11) 3) (sl (Aj v0 v1 v2 v3 v10 v11) 4) (sl (Aj v0 v1 v2 v3 v10 v11) 5)) 6).toInt = 0) (
 cond ((sl (B4 v0 v1 v2 v3 v4 v5 v6 v7 v8 v9 (sl (Aj v0 v1 v2 v3 v10 v11) 1) (sl (Aj v0 v1 v2 v3 v10 v11) 2) (sl (Aj v0 v1 v2 v3 v10 v11) 3) (sl (Aj v0 v1 v2 v3 v10 v11) 4) (sl (Aj v0 v1 v2 v3 v10 v11) 5)) 1).toInt < 0) (
 .row []) (
 cond ((sl (B4 v0 v1 v2 v3 v4 v5 v6 v7 v8 v9 (sl (Aj v0 v1 v2 v3 v10 v11) 1) (sl (Aj v0 v1 v2 v3 v10 v11) 2) (sl (Aj v0 v1 v2 v3 v10 v11) 3) (sl (Aj v0 v1 v2 v3 v10 v11) 4) (sl (Aj v0 v1 v2 v3 v10 v11) 5)) 1).toInt < len v5) (
 cond ((len v6 : Int) = 0) (
 .row [.int 1, (cl v5 (sl (B4 v0 v1 v2 v3 v4 v5 v6 v7 v8 v9 (sl (Aj v0 v1 v2 v3 v10 v11) 1) (sl (Aj v0 v1 v2 v3 v10 v11) 2) (sl (Aj v0 v1 v2 v3 v10 v11) 3) (sl (Aj v0 v1 v2 v3 v10 v11) 4) (sl (Aj v0 v1 v2 v3 v10 v11) 5)) 1).toInt 0), D6, (.bool false), (.int 0)]) (
 cond ((len v6 : Int) = 1) (
 .row [.int 1, (cl v5 (sl (B4 v0 v1 v2 v3 v4 v5 v6 v7 v8 v9 (sl (Aj v0 v1 v2 v3 v10 v11) 1) (sl (Aj v0 v1 v2 v3 v10 v11) 2) (sl (Aj v0 v1 v2 v3 v10 v11) 3) (sl (Aj v0 v1 v2 v3 v10 v11) 4) (sl (Aj v0 v1 v2 v3 v10 v11) 5)) 1).toInt 0), (ad D6 (.row [(sl (B4 v0 v1 v2 v3 v4 v5 v6 v7 v8 v9 (sl (Aj v0 v1 v2 v3 v10 v11) 1) (sl (Aj v0 v1 v2 v3 v10 v11) 2) (sl (Aj v0 v1 v2 v3 v10 v11) 3) (sl (Aj v0 v1 v2 v3 v10 v11) 4) (sl (Aj v0 v1 v2 v3 v10 v11) 5)) 2)])), (.bool false), (.int 0)]) (
 cond ((len v6 : Int) = 2) (
 .row [.int 1, (cl v5 (sl (B4 v0 v1 v2 v3 v4 v5 v6 v7 v8 v9 (sl (Aj v0 v1 v2 v3 v10 v11) 1) (sl (Aj v0 v1 v2 v3 v10 v11) 2) (sl (Aj v0 v1 v2 v3 v10 v11) 3) (sl (Aj v0 v1 v2 v3 v10 v11) 4) (sl (Aj v0 v1 v2 v3 v10 v11) 5)) 1).toInt 0), (ad (ad D6 (.row [(sl (B4 v0 v1 v2 v3 v4 v5 v6 v7 v8 v9 (sl (Aj v0 v1 v2 v3 v10 v11) 1) (sl (Aj v0 v1 v2 v3 v10 v11) 2) (sl (Aj v0 v1 v2 v3 v10 v11) 3) (sl (Aj v0 v1 v2 v3 v10 v11) 4) (sl (Aj v0 v1 v2 v3 v10 v11) 5)) 2)])) (.row [(sl (B4 v0 v1 v2 v3 v4 v5 v6 v7 v8 v9 (sl (Aj v0 v1 v2 v3 v10 v11) 1) (sl (Aj v0 v1 v2 v3 v10 v11) 2) (sl (Aj v0 v1 v2 v3 v10 v11) 3) (sl (Aj v0 v1 v2 v3 v10 v11) 4) (sl (Aj v0 v1 v2 v3 v10 v11) 5)) 3)])), (.bool false), (.int 0)]) (
 cond ((len v6 : Int) = 3) (
 .row [.int 1, (cl v5 (sl (B4 v0 v1 v2 v3 v4 v5 v6 v7 v8 v9 (sl (Aj v0 v1 v2 v3 v10 v11) 1) (sl (Aj v0 v1 v2 v3 v10 v11) 2) (sl (Aj v0 v1 v2 v3 v10 v11) 3) (sl (Aj v0 v1 v2 v3 v10 v11) 4) (sl (Aj v0 v1 v2 v3 v10 v11) 5)) 1).toInt 0), (ad (ad (ad D6 (.row [(sl (B4 v0 v1 v2 v3 v4 v5 v6 v7 v8 v9 (sl (Aj v0 v1 v2 v3 v10 v11) 1) (sl (Aj v0 v1 v2 v3 v10 v11) 2) (sl (Aj v0 v1 v2 v3 v10 v11) 3) (sl (Aj v0 v1 v2 v3 v10 v11) 4) (sl (Aj v0 v1 v2 v3 v10 v11) 5)) 2)])) (.row [(sl (B4 v0 v1 v2 v3 v4 v5 v6 v7 v8 v9 (sl (Aj v0 v1 v2 v3 v10 v11) 1) (sl (Aj v0 v1 v2 v3 v10 v11) 2) (sl (Aj v0 v1 v2 v3 v10 v11) 3) (sl (Aj v0 v1 v2 v3 v10 v11) 4) (sl (Aj v0 v1 v2 v3 v10 v11) 5)) 3)])) (.row [(sl (B4 v0 v1 v2 v3 v4 v5 v6 v7 v8 v9 (sl (Aj v0 v1 v2 v3 v10 v11) 1) (sl (Aj v0 v1 v2 v3 v10 v11) 2) (sl (Aj v0 v1 v2 v3 v10 v11) 3) (sl (Aj v0 v1 v2 v3 v10 v11) 4) (sl (Aj v0 v1 v2 v3 v10 v11) 5)) 4)])), (.bool false), (.int 0)]) (
 cond ((len v6 : Int) = 4) (
 .row [.int 1, (cl v5 (sl (B4 v0 v1 v2 v3 v4 v5 v6 v7 v8 v9 (sl (Aj v0 v1 v2 v3 v10 v11) 1) (sl (Aj v0 v1 v2 v3 v10 v11) 2) (sl (Aj v0 v1 v2 v3 v10 v11) 3) (sl (Aj v0 v1 v2 v3 v10 v11) 4) (sl (Aj v0 v1 v2 v3 v10 v11) 5)) 1).toInt 0), (ad (ad (ad (ad D6 (.row [(sl (B4 v0 v1 v2 v3 v4 v5 v6 v7 v8 v9 (sl (Aj v0 v1 v2 v3 v10 v11) 1) (sl (Aj v0 v1 v2 v3 v10 v11) 2) (sl (Aj v0 v1 v2 v3 v10 v11) 3) (sl (Aj v0 v1 v2 v3 v10 v11) 4) (sl (Aj v0 v1 v2 v3 v10 v11) 5)) 2)])) (.row [(sl (B4 v0 v1 v2 v3 v4 v5 v6 v7 v8 v9 (sl (Aj v0 v1 v2 v3 v10 v11) 1) (sl (Aj v0 v1 v2 v3 v10 v11) 2) (sl (Aj v0 v1 v2 v3 v10 v11) 3) (sl (Aj v0 v1 v2 v3 v10 v11) 4) (sl (Aj v0 v1 v2 v3 v10 v11) 5)) 3)])) (.row [(sl (B4 v0 v1 v2 v3 v4 v5 v6 v7 v8 v9 (sl (Aj v0 v1 v2 v3 v10 v11) 1) (sl (Aj v0 v1 v2 v3 v10 v11) 2) (sl (Aj v0 v1 v2 v3 v10 v11) 3) (sl (Aj v0 v1 v2 v3 v10 v11) 4) (sl (Aj v0 v1 v2 v3 v10 v11) 5)) 4)])) (.row [(sl (B4 v0 v1 v2 v3 v4 v5 v6 v7 v8 v9 (sl (Aj v0 v1 v2 v3 v10 v11) 1) (sl (Aj v0 v1 v2 v3 v10 v11) 2) (sl (Aj v0 v1 v2 v3 v10 v11) 3) (sl (Aj v0 v1 v2 v3 v10 v11) 4) (sl (Aj v0 v1 v2 v3 v10 v11) 5)) 5)])), (.bool false), (.int 0)]) (
 .row [])))))) (
 .row []))) (
 .row [.int 1, (Fo 0 0), E5, (.bool true), (sl (B4 v0 v1 v2 v3 v4 v5 v6 v7 v8 v9 (sl (Aj v0 v1 v2 v3 v10 v11) 1) (sl (Aj v0 v1 v2 v3 v10 v11) 2) (sl (Aj v0 v1 v2 v3 v10 v11) 3) (sl (Aj v0 v1 v2 v3 v10 v11) 4) (sl (Aj v0 v1 v2 v3 v10 v11) 5)) 6)])) (
 .row [])) (
 .row [.int 1, (Fo 0 0), E5, (.bool true), (.int 492)])) (
 .row [])) (
 .row [.int 1, (Fo 0 0), E5, (.bool true), (sl (Fg v0 v1 v2 v3 v4 v5 v6 v7 v8 v9) 2)])) (
 .row []) := gw rfl rfl (cQ (cQ (cQ (cg rfl (cQ (cQ (cL rfl (cL (cQ rfl (cQ rfl (cQ rfl (cQ rfl (cQ rfl rfl))))) rfl)) rfl) rfl) rfl) rfl) rfl) rfl)
theorem VO (v0 v1 : D) (v2 : Bool) (v3 v4 : D) (v5 : Bool) : Pa v0 v1 (.bool v2) v3 v4 (.bool v5) =
  cond (D.strEq v0 v3) (
 cond ((len v1 : Int) = (len v4 : Int)) (
 Ik (.int 0) v1 v4 v0 (.bool v2) v3 (.bool v5)) (
 .row [.int 1, (.bool false)])) (
 .row [.int 1, (.bool false)]) := gw rfl rfl (cg rfl (cQ rfl rfl) rfl)
theorem TV (v0 : Int) (v1 v2 v3 : D) (v4 : Bool) (v5 : D) (v6 : Bool) : Ik (.int v0) v1 v2 v3 (.bool v4) v5 (.bool v6) =
  cond (v0 < len v1) (
 cond (v0 < 0) (
 .row []) (
 cond (v0 < len v2) (
 cond ((cl v1 v0 0).toInt = (cl v2 v0 0).toInt) (
 Ik (.int (IntKind.wrap .i64 (v0 + 1))) v1 v2 v3 (.bool v4) v5 (.bool v6)) (
 .row [.int 1, (.bool false)])) (
 .row []))) (
 .row [.int 1, (.bool true)]) := gw rfl rfl (cL (cL rfl (cL (cQ rfl rfl) rfl)) rfl)
theorem Vg (v0 v1 v2 v3 v4 v5 v6 v7 v8 v9 v10 v11 v12 v13 v14 v15 v16 v17 : D) : TT v0 v1 v2 v3 v4 v5 v6 v7 v8 v9 v10 v11 v12 v13 v14 v15 v16 v17 =
  cond ((sl (Ng v0 v1 v2 v3) 0).toInt = 1) (
 cond ((sl (Ng v0 v1 v2 v3) 1).toBool) (
 cond ((sl (Ng v4 v5 v6 v7) 0).toInt = 1) (
 cond ((sl (Ng v4 v5 v6 v7) 1).toBool) (
 cond ((sl (Ng v8 v9 v10 v11) 0).toInt = 1) (
 cond ((sl (Ng v8 v9 v10 v11) 1).toBool) (
 cond (10 < (len v12 : Int)) (
 cond ((sl (GX) 0).toInt = 1) (
 .row [.int 1, (.bool true)]) (
 .row [])) (
 cond (10 < (len v13 : Int)) (
 cond ((sl (GX) 0).toInt = 1) (
 .row [.int 1, (.bool true)]) (
 .row [])) (
 cond (10 < (len v14 : Int)) (
 cond ((sl (GX) 0).toInt = 1) (
 .row [.int 1, (.bool true)]) (
 .row [])) (
 cond (10 < (len v15 : Int)) (
 cond ((sl (GX) 0).toInt = 1) (
 .row [.int 1, (.bool true)]) (
 .row [])) (
 cond (10 < (len v17 : Int)) (
 cond ((sl (GX) 0).toInt = 1) (
 .row [.int 1, (.bool true)]) (
 .row [])) (
 cond ((sl (A3 v0 v1 v2 v3 v4 v5 v6 v7 v8 v9 v10 v11 v12 v13 v14 v15) 0).toInt = 1) (
 cond ((sl (AQ v0 v1 v2 v3 v4 v5 v6 v7 v12 v13 v16 v17) 0).toInt = 1) (
 cond ((sl (A3 v0 v1 v2 v3 v4 v5 v6 v7 v8 v9 v10 v11 v12 v13 v14 v15) 5).toInt = 0) (
 cond ((sl (AQ v0 v1 v2 v3 v4 v5 v6 v7 v12 v13 v16 v17) 4).toInt = 0) (
 cond ((sl (AQ v4 v5 v6 v7 v8 v9 v10 v11 v14 v15 (sl (AQ v0 v1 v2 v3 v4 v5 v6 v7 v12 v13 v16 v17) 1) (ni (sl (AQ v0 v1 v2 v3 v4 v5 v6 v7 v12 v13 v16 v17) 2) ((sl (AQ v0 v1 v2 v3 v4 v5 v6 v7 v12 v13 v16 v17) 3).toBool))) 0).toInt = 1) (
 cond ((sl (AQ v4 v5 v6 v7 v8 v9 v10 v11 v14 v15 (sl (AQ v0 v1 v2 v3 v4 v5 v6 v7 v12 v13 v16 v17) 1) (ni (sl (AQ v0 v1 v2 v3 v4 v5 v6 v7 v12 v13 v16 v17) 2) ((sl (AQ v0 v1 v2 v3 v4 v5 v6 v7 v12 v13 v16 v17) 3).toBool))) 4).toInt = 0) (
 cond ((sl (AQ v0 v1 v2 v3 v8 v9 v10 v11 (ni (sl (A3 v0 v1 v2 v3 v4 v5 v6 v7 v8 v9 v10 v11 v12 v13 v14 v15) 1) ((sl (A3 v0 v1 v2 v3 v4 v5 v6 v7 v8 v9 v10 v11 v12 v13 v14 v15) 2).toBool)) (ni (sl (A3 v0 v1 v2 v3 v4 v5 v6 v7 v8 v9 v10 v11 v12 v13 v14 v15) 3) ((sl (A3 v0 v1 v2 v3 v4 v5 v6 v7 v8 v9 v10 v11 v12 v13 v14 v15) 4).toBool)) v16 v17) 0).toInt = 1) (
 cond ((sl (AQ v0 v1 v2 v3 v8 v9 v10 v11 (ni (sl (A3 v0 v1 v2 v3 v4 v5 v6 v7 v8 v9 v10 v11 v12 v13 v14 v15) 1) ((sl (A3 v0 v1 v2 v3 v4 v5 v6 v7 v8 v9 v10 v11 v12 v13 v14 v15) 2).toBool)) (ni (sl (A3 v0 v1 v2 v3 v4 v5 v6 v7 v8 v9 v10 v11 v12 v13 v14 v15) 3) ((sl (A3 v0 v1 v2 v3 v4 v5 v6 v7 v8 v9 v10 v11 v12 v13 v14 v15) 4).toBool)) v16 v17) 4).toInt = 0) (
 cond ((sl (Pa (sl (AQ v0 v1 v2 v3 v8 v9 v10 v11 (ni (sl (A3 v0 v1 v2 v3 v4 v5 v6 v7 v8 v9 v10 v11 v12 v13 v14 v15) 1) ((sl (A3 v0 v1 v2 v3 v4 v5 v6 v7 v8 v9 v10 v11 v12 v13 v14 v15) 2).toBool)) (ni (sl (A3 v0 v1 v2 v3 v4 v5 v6 v7 v8 v9 v10 v11 v12 v13 v14 v15) 3) ((sl (A3 v0 v1 v2 v3 v4 v5 v6 v7 v8 v9 v10 v11 v12 v13 v14 v15) 4).toBool)) v16 v17) 1) (sl (AQ v0 v1 v2 v3 v8 v9 v10 v11 (ni (sl (A3 v0 v1 v2 v3 v4 v5 v6 v7 v8 v9 v10 v11 v12 v13 v14 v15) 1) ((sl (A3 v0 v1 v2 v3 v4 v5 v6 v7 v8 v9 v10 v11 v12 v13 v14 v15) 2).toBool)) (ni (sl (A3 v0 v1 v2 v3 v4 v5 v6 v7 v8 v9 v10 v11 v12 v13 v14 v15) 3) ((sl (A3 v0 v1 v2 v3 v4 v5 v6 v7 v8 v9 v10 v11 v12 v13 v14 v15) 4).toBool)) v16 v17) 2) (sl (AQ v0 v1 v2 v3 v8 v9 v10 v11 (ni (sl (A3 v0 v1 v2 v3 v4 v5 v6 v7 v8 v9 v10 v11 v12 v13 v14 v15) 1) ((sl (A3 v0 v1 v2 v3 v4 v5 v6 v7 v8 v9 v10 v11 v12 v13 v14 v15) 2).toBool)) (ni (sl (A3 v0 v1 v2 v3 v4 v5 v6 v7 v8 v9 v10 v11 v12 v13 v14 v15) 3) ((sl (A3 v0 v1 v2 v3 v4 v5 v6 v7 v8 v9 v10 v11 v12 v13 v14 v15) 4).toBool)) v16 v17) 3) (sl (AQ v4 v5 v6 v7 v8 v9 v10 v11 v14 v15 (sl (AQ v0 v1 v2 v3 v4 v5 v6 v7 v12 v13 v16 v17) 1) (ni (sl (AQ v0 v1 v2 v3 v4 v5 v6 v7 v12 v13 v16 v17) 2) ((sl (AQ v0 v1 v2 v3 v4 v5 v6 v7 v12 v13 v16 v17) 3).toBool))) 1) (sl (AQ v4 v5 v6 v7 v8 v9 v10 v11 v14 v15 (sl (AQ v0 v1 v2 v3 v4 v5 v6 v7 v12 v13 v16 v17) 1) (ni (sl (AQ v0 v1 v2 v3 v4 v5 v6 v7 v12 v13 v16 v17) 2) ((sl (AQ v0 v1 v2 v3 v4 v5 v6 v7 v12 v13 v16 v17) 3).toBool))) 2) (sl (AQ v4 v5 v6 v7 v8 v9 v10 v11 v14 v15 (sl (AQ v0 v1 v2 v3 v4 v5 v6 v7 v12 v13 v16 v17) 1) (ni (sl (AQ v0 v1 v2 v3 v4 v5 v6 v7 v12 v13 v16 v17) 2) ((sl (AQ v0 v1 v2 v3 v4 v5 v6 v7 v12 v13 v16 v17) 3).toBool))) 3)) 0).toInt = 1) (
 cond ((sl (Pa (sl (AQ v0 v1 v2 v3 v8 v9 v10 v11 (ni (sl (A3 v0 v1 v2 v3 v4 v5 v6 v7 v8 v9 v10 v11 v12 v13 v14 v15) 1) ((sl (A3 v0 v1 v2 v3 v4 v5 v6 v7 v8 v9 v10 v11 v12 v13 v14 v15) 2).toBool)) (ni (sl (A3 v0 v1 v2 v3 v4 v5 v6 v7 v8 v9 v10 v11 v12 v13 v14 v15) 3) ((sl (A3 v0 v1 v2 v3 v4 v5 v6 v7 v8 v9 v10 v11 v12 v13 v14 v15) 4).toBool)) v16 v17) 1) (sl (AQ v0 v1 v2 v3 v8 v9 v10 v11 (ni (sl (A3 v0 v1 v2 v3 v4 v5 v6 v7 v8 v9 v10 v11 v12 v13 v14 v15) 1) ((sl (A3 v0 v1 v2 v3 v4 v5 v6 v7 v8 v9 v10 v11 v12 v13 v14 v15) 2).toBool)) (ni (sl (A3 v0 v1 v2 v3 v4 v5 v6 v7 v8 v9 v10 v11 v12 v13 v14 v15) 3) ((sl (A3 v0 v1 v2 v3 v4 v5 v6 v7 v8 v9 v10 v11 v12 v13 v14 v15) 4).toBool)) v16 v17) 2) (sl (AQ v0 v1 v2 v3 v8 v9 v10 v11 (ni (sl (A3 v0 v1 v2 v3 v4 v5 v6 v7 v8 v9 v10 v11 v12 v13 v14 v15) 1) ((sl (A3 v0 v1 v2 v3 v4 v5 v6 v7 v8 v9 v10 v11 v12 v13 v14 v15) 2).toBool)) (ni (sl (A3 v0 v1 v2 v3 v4 v5 v6 v7 v8 v9 v10 v11 v12 v13 v14 v15) 3) ((sl (A3 v0 v1 v2 v3 v4 v5 v6 v7 v8 v9 v10 v11 v12 v13 v14 v15) 4).toBool)) v16 v17) 3) (sl (AQ v4 v5 v6 v7 v8 v9 v10 v11 v14 v15 (sl (AQ v0 v1 v2 v3 v4 v5 v6 v7 v12 v13 v16 v17) 1) (ni (sl (AQ v0 v1 v2 v3 v4 v5 v6 v7 v12 v13 v16 v17) 2) ((sl (AQ v0 v1 v2 v3 v4 v5 v6 v7 v12 v13 v16 v17) 3).toBool))) 1) (sl (AQ v4 v5 v6 v7 v8 v9 v10 v11 v14 v15 (sl (AQ v0 v1 v2 v3 v4 v5 v6 v7 v12 v13 v16 v17) 1) (ni (sl (AQ v0 v1 v2 v3 v4 v5 v6 v7 v12 v13 v16 v17) 2) ((sl (AQ v0 v1 v2 v3 v4 v5 v6 v7 v12 v13 v16 v17) 3).toBool))) 2) (sl (AQ v4 v5 v6 v7 v8 v9 v10 v11 v14 v15 (sl (AQ v0 v1 v2 v3 v4 v5 v6 v7 v12 v13 v16 v17) 1) (ni (sl (AQ v0 v1 v2 v3 v4 v5 v6 v7 v12 v13 v16 v17) 2) ((sl (AQ v0 v1 v2 v3 v4 v5 v6 v7 v12 v13 v16 v17) 3).toBool))) 3)) 1).toBool) (
 cond ((sl (GX) 0).toInt = 1) (
 .row [.int 1, (.bool true)]) (
 .row [])) (
 .row [.int 1, (.bool false)])) (
 .row [])) (
 .row [.int 1, (.bool false)])) (
 .row [])) (
 cond ((sl (GX) 0).toInt = 1) (
 .row [.int 1, (.bool true)]) (
 .row []))) (
 .row [])) (
 cond ((sl (GX) 0).toInt = 1) (
 .row [.int 1, (.bool true)]) (
 .row []))) (
 cond ((sl (GX) 0).toInt = 1) (
 .row [.int 1, (.bool true)]) (
 .row []))) (
 .row [])) (
 .row []))))))) (
 cond ((sl (GX) 0).toInt = 1) (
 .row [.int 1, (.bool true)]) (
 .row []))) (
 .row [])) (
 cond ((sl (GX) 0).toInt = 1) (
 .row [.int 1, (.bool true)]) (
 .row []))) (
 .row [])) (
 cond ((sl (GX) 0).toInt = 1) (
 .row [.int 1, (.bool true)]) (
 .row []))) (
 .row []) := gw rfl rfl (cQ (cg rfl (cQ (cg rfl (cQ (cg rfl (cL (cQ rfl rfl) (cL (cQ rfl rfl) (cL (cQ rfl rfl) (cL (cQ rfl rfl) (cL (cQ rfl rfl) (cQ (cQ (cQ (cQ (cQ (cQ (cQ (cQ (cQ (cg rfl (cQ rfl rfl) rfl) rfl) rfl) rfl) (cQ rfl rfl)) rfl) (cQ rfl rfl)) (cQ rfl rfl)) rfl) rfl)))))) (cQ rfl rfl)) rfl) (cQ rfl rfl)) rfl) (cQ rfl rfl)) rfl)
end
end Uh
namespace Uh
open Go Go.AE
theorem MK {v : D} : len (Tl v) = Bw v := by
 show (List.map _ _).length = _;simp [Bw]
def R1 (x : D) : Prop := ∃ b : Bool, x = .row [.int 1, .bool b]
theorem R1.no : R1 (.row [.int 1, .bool false]) := ⟨_, rfl⟩
theorem R1.c {c : Bool} {x y : D} (h : R1 x) (h' : R1 y) : R1 (cond c x y) := by cases c <;> assumption
section
variable [Av]
theorem Ld {v : D} (hs : Bw v ≤ 32) : ∀ {k i : Nat}, i + k = Bw v → R1 (Ot (Tl v) (.int (Bw v : Nat)) (.int (i : Nat)))
 | 0, i, h => by rw [Wm, ifF (by omega)]; exact ⟨_, rfl⟩
 | k + 1, i, h => by
  have ih := Ld hs (k := k) (i := i + 1) (by omega)
  rw [Wm, ifT (by omega), ifF (by omega), ifT (by rw [MK]; omega), CM (by omega)]
  exact .c (.c (.c .no (.c .no (.c .no ih))) (.c (.c .no (.c ih .no)) ih)) (.c (.c .no .no) ih)
theorem Pf (v : D) : ∃ b, Eb v = .row [.int 1, .bool b] ∧ (b = true → 1 ≤ Bw v) := by
 rw [XU];by_cases c1 : (Bw v : Int) < 1
 ·rw [ifT c1]; exact ⟨_, rfl, fun h => by cases h⟩
 rw [ifF c1];by_cases c2 : 32 < (Bw v : Int)
 ·rw [ifT c2]; exact ⟨_, rfl, fun h => by cases h⟩
 rw [ifF c2, MK];obtain ⟨b, hb⟩ := Ld (v := v) (by omega) (k := Bw v) (i := 0) (by omega)
 exact ⟨b, hb, fun _ => by omega⟩
end
end Uh
namespace Uh
open Go Go.AE
def fd (l key : D) : Int := fdG (fun j => D.strEq (cl l j 0) key) (len l) 0
theorem CD {l key : D} : fd l key < len l := by
 have := HX (p := fun j => D.strEq (cl l j 0) key) (k := len l) (i := 0)
 unfold fd; omega
theorem W7 {l key : D} : fd l key = -1 ∨ 0 ≤ fd l key := by
 have := Mf (p := fun j => D.strEq (cl l j 0) key) (k := len l) (i := 0)
 unfold fd; omega
theorem FG {l key : D} (h : 0 ≤ fd l key) : D.strEq (cl l (fd l key) 0) key = true := by
 have := OA (p := fun j => D.strEq (cl l j 0) key) (k := len l) (i := 0) h
 have e : ((fd l key).toNat : Int) = fd l key := by omega
 rw [← e];exact this
theorem Do {F : Int → D} {l key : D} (hn : len l < 4611686018427387904) (h : ∀ i : Int, F i = cond (decide (i < (len l : Int))) (cond (decide (i < 0)) (.row []) (cond (D.strEq (cl l i 0) key) (.row [.int 1, .int i]) (F (IntKind.wrap .i64 (i + 1))))) (.row [.int 1, .int (-1)])) : F 0 = .row [.int 1, .int (fd l key)] := by
 refine find (F := fun i => F (i : Int)) (n := len l) (bad := fun j => D.strEq (cl l j 0) key) (fun j hj => ?_) ?_
 ·show F (j : Int) = _;rw [h, ifT (by omega), ifF (by omega), CM (by omega)]
 ·show F (len l : Int) = _;rw [h, ifF (by omega)]
section
variable [Av]
variable {v0 v1 v2 v3 v4 v5 : D}
theorem TZ (hn : len v0 < 4611686018427387904) (k : D) : Ro v0 k = .row [.int 1, .int (fd v0 k)] := (XA ..).trans (Do (F := fun i => Tj v0 (.int i) k) hn fun i => XK ..)
theorem T0 (hn : len v0 < 4611686018427387904) (k : D) : HU v0 k = .row [.int 1, .int (fd v0 k)] := (Yc ..).trans (Do (F := fun i => Sv v0 (.int i) k) hn fun i => XP ..)
theorem Pk (hn : len v0 < 4611686018427387904) (k : D) : HO v0 k = .row [.int 1, .int (fd v0 k)] := (XV ..).trans (Do (F := fun i => SK v0 (.int i) k) hn fun i => XN ..)
theorem L6 (hn : len v0 < 4611686018427387904) (k : D) : Ep v0 k = .row [.int 1, .int (fd v0 k)] := (WC ..).trans (Do (F := fun i => O7 v0 (.int i) k) hn fun i => Wu ..)
def nm (v : D) : Bool := (sl (Eb v) 1).toBool
theorem OQ (v : D) : Eb v = .row [.int 1, .bool (nm v)] := by
 obtain ⟨b, q1, q2⟩ := Pf v;unfold nm;rw [q1];rfl
theorem Us {v : D} (h : nm v = true) : 1 ≤ Bw v := by
 obtain ⟨b, q1, q2⟩ := Pf v;unfold nm at h;rw [q1] at h;exact q2 h
def MB (v2 : D) (i : Nat) : Bool := !nm (cl v2 i 0) || decide (fd v2 (cl v2 i 0) < i) || decide ((cl v2 i 1).toInt < 1) || decide (1000 < (cl v2 i 1).toInt)
def P6 (v1 : D) (i : Nat) : Bool := !nm (cl v1 i 0) || decide (fd v1 (cl v1 i 0) < i) || decide ((cl v1 i 2).toInt < 0) || decide (1048576 < (cl v1 i 2).toInt)
theorem T6 (hn : len v2 < 1000) (v0 v1 v3 : D) : P4 (.int (len v2 : Nat)) (.int 0) (.int 4) v0 v1 v2 v3 = .row [.int 1, .int (cond (decide (4 < (len v2 : Int))) 4 (fdG (MB v2) (len v2) 0))] := by
 rw [Ym, ifF (by omega)]
 by_cases c : 4 < (len v2 : Int)
 ·rw [ifT c, ifT c]
 rw [ifF c, ifF c];refine find (F := fun i => Qv (.int (len v2 : Nat)) (.int (i : Nat)) v0 v1 v2 v3) (n := len v2) (bad := MB v2) (fun j hj => ?_) ?_
 ·show Qv _ (.int (j : Nat)) _ _ _ _ = _;rw [Vt, ifT (by omega), ifF (by omega), ifT (by omega)]
  simp only [OQ, TZ (v0 := v2) (by omega), AZ, AY, Ap, AG, decide_true, cond_true, CM (i := j) (by omega)]
  unfold MB;cases nm (cl v2 j 0) <;> cases decide (fd v2 (cl v2 j 0) < j) <;> cases decide ((cl v2 j 1).toInt < 1) <;> cases decide (1000 < (cl v2 j 1).toInt) <;> rfl
 ·show Qv _ (.int (len v2 : Nat)) _ _ _ _ = _;rw [Vt, ifF (by omega)]
theorem TG (hn : len v1 < 1000) (v0 v2 v3 : D) : P2 (.int (len v1 : Nat)) (.int 1) (.int 24) v0 v1 v2 v3 = .row [.int 1, .int (cond (decide ((len v1 : Int) < 1)) 0 (cond (decide (24 < (len v1 : Int))) 24 (fdG (P6 v1) (len v1) 0)))] := by
 rw [XY];by_cases c : (len v1 : Int) < 1
 ·rw [ifT c, ifT c]
 rw [ifF c, ifF c];by_cases c : 24 < (len v1 : Int)
 ·rw [ifT c, ifT c]
 rw [ifF c, ifF c];refine find (F := fun i => PV (.int (len v1 : Nat)) (.int (i : Nat)) v0 v1 v2 v3) (n := len v1) (bad := P6 v1) (fun j hj => ?_) ?_
 ·show PV _ (.int (j : Nat)) _ _ _ _ = _;rw [Xl, ifT (by omega), ifF (by omega), ifT (by omega)]
  simp only [OQ, T0 (v0 := v1) (by omega), AZ, AY, Ap, AG, decide_true, cond_true, CM (i := j) (by omega)]
  unfold P6;cases nm (cl v1 j 0) <;> cases decide (fd v1 (cl v1 j 0) < j) <;> cases decide ((cl v1 j 2).toInt < 0) <;> cases decide (1048576 < (cl v1 j 2).toInt) <;> rfl
 ·show PV _ (.int (len v1 : Nat)) _ _ _ _ = _;rw [Xl, ifF (by omega)]
end
end Uh
namespace Uh
open Go Go.AE
def Fu (v3 : D) (i j : Nat) : Bool := D.strEq (cl v3 j 0) (cl v3 i 0) && (D.strEq (cl v3 j 1) (cl v3 i 1) && (decide ((cl v3 j 2).toInt = (cl v3 i 2).toInt) && (D.strEq (cl v3 j 3) (cl v3 i 3) && (D.strEq (cl v3 j 4) (cl v3 i 4) && (D.strEq (cl v3 j 5) (cl v3 i 5) && (decide ((cl v3 j 6).toInt = (cl v3 i 6).toInt) && (decide ((cl v3 j 7).toInt = (cl v3 i 7).toInt) && decide ((cl v3 j 8).toInt = (cl v3 i 8).toInt))))))))
def dup (v3 : D) (i : Nat) : Bool := !decide (fdG (Fu v3 i) i 0 < 0)
def U5 (v2 v3 : D) (i : Nat) : Bool := cond (eqC (cl v3 i 5) 0 0) (cond (decide ((cl v3 i 6).toInt = 0)) (cond (decide ((cl v3 i 7).toInt = 0)) (cond (decide ((cl v3 i 8).toInt = 0)) false true) true) true)
 (cond (decide (fd v2 (cl v3 i 5) < 0)) true (cond (decide ((cl v3 i 6).toInt < 0)) true (cond (decide ((cl v3 i 7).toInt < (cl v3 i 6).toInt)) true (cond (decide ((cl v3 i 8).toInt < (-1000))) true (cond (decide (1000 < (cl v3 i 8).toInt)) true
  (cond (decide ((cl v2 (fd v2 (cl v3 i 5)) 1).toInt < (cl v3 i 7).toInt)) true (cond (decide (IntKind.wrap .i64 ((cl v3 i 6).toInt + (cl v3 i 8).toInt) < 0)) true (cond (decide ((cl v2 (fd v2 (cl v3 i 5)) 1).toInt < IntKind.wrap .i64 ((cl v3 i 7).toInt + (cl v3 i 8).toInt))) true false))))))))
def Dq (v3 : D) : Prop := ∀ i : Nat, i < len v3 → (∃ n, cl v3 i 2 = .int n) ∧ (∃ n, cl v3 i 6 = .int n) ∧ (∃ n, cl v3 i 7 = .int n) ∧ (∃ n, cl v3 i 8 = .int n) ∧ Bw (cl v3 i 3) < 4611686018427387904 ∧ Bw (cl v3 i 4) < 4611686018427387904
section
variable [Av]
def Wt (v0 v1 v3 : D) (i : Nat) : Bool := cond (decide ((cl v3 i 2).toInt = 1)) (cond (nm (cl v3 i 3)) (cond (nm (cl v3 i 4)) (D.strEq (cl v3 i 4) v0) true) true)
 (cond (decide ((cl v3 i 2).toInt = 2)) (cond (nm (cl v3 i 3)) (cond (nm (cl v3 i 4)) (D.strEq (cl v3 i 4) v0) true) true)
 (cond (decide ((cl v3 i 2).toInt = 3)) (cond (eqC (cl v3 i 3) 0 0) (cond (eqC (cl v3 i 4) 0 0) (!decide (0 < (cl v1 (fd v1 (cl v3 i 0)) 2).toInt)) true) true)
 (cond (decide ((cl v3 i 2).toInt = 4)) (cond (eqC (cl v3 i 3) 0 0) (cond (eqC (cl v3 i 4) 0 0) false true) true) true)))
def Of (v0 v1 v2 v3 : D) (i : Nat) : Bool := decide (fd v1 (cl v3 i 0) < 0) || (decide (fd v1 (cl v3 i 1) < 0) || (dup v3 i || (Wt v0 v1 v3 i || U5 v2 v3 i)))
variable {v0 v1 v2 v3 : D}
theorem VY (hs : Dq v3) (hn : len v3 < 1000) {i : Nat} (hi : i < len v3) : ∃ n : Int, Uk (sb v3 0 i) (cl v3 i 0) (cl v3 i 1) (cl v3 i 2) (cl v3 i 3) (cl v3 i 4) (cl v3 i 5) (cl v3 i 6) (cl v3 i 7) (cl v3 i 8) = .row [.int 1, .int n] ∧ decide (n < 0) = !dup v3 i := by
 obtain ⟨⟨n2, h2⟩, ⟨n6, h6⟩, ⟨n7, h7⟩, ⟨n8, h8⟩, _⟩ := hs i hi;refine ⟨fdG (Fu v3 i) i 0, ?_, by unfold dup; rw [Bool.not_not]⟩
 have hl : len (sb v3 0 i) = i := by
  have := U1 (a := v3) (lo := 0) (hi := (i : Int)) (by omega) (by omega)
  omega
 rw [h2, h6, h7, h8, Yf];refine find (F := fun j => Qs (sb v3 0 i) (.int (j : Nat)) (cl v3 i 0) (cl v3 i 1) (.int n2) (cl v3 i 3) (cl v3 i 4) (cl v3 i 5) (.int n6) (.int n7) (.int n8)) (n := i) (bad := Fu v3 i) (fun j hj => ?_) ?_
 ·show Qs (sb v3 0 i) (.int (j : Nat)) (cl v3 i 0) (cl v3 i 1) (.int n2) (cl v3 i 3) (cl v3 i 4) (cl v3 i 5) (.int n6) (.int n7) (.int n8) = _;rw [WI, hl, ifT (by omega), ifF (by omega), CM (by omega)]
  simp only [Xs (a := v3) (i := i) (j := j) (by omega) hj]
  have e : (D.strEq (cl v3 i 0) (cl v3 j 0) && (D.strEq (cl v3 i 1) (cl v3 j 1) && (decide (n2 = (cl v3 j 2).toInt) && (D.strEq (cl v3 i 3) (cl v3 j 3) && (D.strEq (cl v3 i 4) (cl v3 j 4) && (D.strEq (cl v3 i 5) (cl v3 j 5) && (decide (n6 = (cl v3 j 6).toInt) && (decide (n7 = (cl v3 j 7).toInt) && decide (n8 = (cl v3 j 8).toInt))))))))) = Fu v3 i j := by
   unfold Fu;rw [h2, h6, h7, h8];simp only [Ap];rw [Bv (a := cl v3 i 0), Bv (a := cl v3 i 1), Bv (a := cl v3 i 3), Bv (a := cl v3 i 4), Bv (a := cl v3 i 5)];rw [Pq (x := n2), Pq (x := n6), Pq (x := n7), Pq (x := n8)];rfl
  rw [e]
 ·show Qs (sb v3 0 i) (.int (i : Nat)) (cl v3 i 0) (cl v3 i 1) (.int n2) (cl v3 i 3) (cl v3 i 4) (cl v3 i 5) (.int n6) (.int n7) (.int n8) = _;rw [WI, hl, ifF (by omega)]
theorem S7 (hs : Dq v3) (hn : len v3 < 1000) (hn1 : len v1 < 1000) (hn2 : len v2 < 1000) {i : Nat} (hi : i < len v3) : GI (.int (len v3 : Nat)) (.int (i : Nat)) v0 v1 v2 v3 = cond (Of v0 v1 v2 v3 i) (.row [.int 1, .int (i : Nat)]) (GI (.int (len v3 : Nat)) (.int (i + 1 : Nat)) v0 v1 v2 v3) := by
 obtain ⟨n, h6, hd⟩ := VY hs hn hi;obtain ⟨_, _, _, _, h3, h4⟩ := hs i hi;rw [Wl (h0 := rfl) (h1 := rfl) (h2 := rfl), ifT (by omega), ifF (by omega), ifT (by omega)]
 have a1 := CD (l := v1) (key := cl v3 i 0);have a2 := CD (l := v2) (key := cl v3 i 5);have d1 : decide ((Bw (cl v3 i 3) : Int) < 4611686018427387904) = true := decide_eq_true (by omega)
 have d2 : decide ((Bw (cl v3 i 4) : Int) < 4611686018427387904) = true := decide_eq_true (by omega)
 have d3 : decide ((len v3 : Int) < i) = false := decide_eq_false (by omega)
 simp only [h6, hd, OQ, TZ (v0 := v2) (by omega), T0 (v0 := v1) (by omega), AZ, AY, Ap, AG, decide_true, cond_true, cond_false, CM (i := i) (by omega), decide_eq_true a1, decide_eq_true a2, d1, d2, d3, OG]
 unfold Of Wt;generalize GI (.int (len v3 : Nat)) (.int (i + 1 : Nat)) v0 v1 v2 v3 = X;generalize hY : (D.row [.int 1, .int (i : Nat)]) = Y;cases decide (fd v1 (cl v3 i 0) < 0) <;> cases decide (fd v1 (cl v3 i 1) < 0) <;> cases dup v3 i <;> simp only [cond_true, cond_false, Bool.true_or, Bool.false_or, Bool.not_true, Bool.not_false, Bool.cond_self]
 unfold U5;by_cases k1 : (cl v3 i 2).toInt = 1
 ·simp only [ifT k1];cases nm (cl v3 i 3) <;> cases nm (cl v3 i 4) <;> cases D.strEq (cl v3 i 4) v0 <;> simp only [cond_true, cond_false, Bool.true_or, Bool.false_or]
  repeat' (refine LB (fun h => ?_) (fun h => ?_)) <;> simp only [*, cond_true, cond_false]
 simp only [ifF k1];by_cases k2 : (cl v3 i 2).toInt = 2
 ·simp only [ifT k2];cases nm (cl v3 i 3) <;> cases nm (cl v3 i 4) <;> cases D.strEq (cl v3 i 4) v0 <;> simp only [cond_true, cond_false, Bool.true_or, Bool.false_or]
  repeat' (refine LB (fun h => ?_) (fun h => ?_)) <;> simp only [*, cond_true, cond_false]
 simp only [ifF k2];by_cases k3 : (cl v3 i 2).toInt = 3
 ·simp only [ifT k3];cases eqC (cl v3 i 3) 0 0 <;> cases eqC (cl v3 i 4) 0 0 <;> cases decide (0 < (cl v1 (fd v1 (cl v3 i 0)) 2).toInt) <;> simp only [cond_true, cond_false, Bool.true_or, Bool.false_or, Bool.and_true, Bool.true_and, Bool.and_false, Bool.false_and, Bool.not_true, Bool.not_false]
  repeat' (refine LB (fun h => ?_) (fun h => ?_)) <;> simp only [*, cond_true, cond_false]
 simp only [ifF k3];by_cases k4 : (cl v3 i 2).toInt = 4
 ·simp only [ifT k4];cases eqC (cl v3 i 3) 0 0 <;> cases eqC (cl v3 i 4) 0 0 <;> simp only [cond_true, cond_false, Bool.true_or, Bool.false_or, Bool.and_true, Bool.true_and, Bool.and_false, Bool.false_and, Bool.not_true, Bool.not_false]
  repeat' (refine LB (fun h => ?_) (fun h => ?_)) <;> simp only [*, cond_true, cond_false]
 simp only [ifF k4, cond_true, Bool.true_or]
theorem TN (hs : Dq v3) (hn : len v3 < 1000) (hn1 : len v1 < 1000) (hn2 : len v2 < 1000) (v0 : D) : Qr (.int (len v3 : Nat)) (.int 0) (.int 80) v0 v1 v2 v3 = .row [.int 1, .int (cond (decide (80 < (len v3 : Int))) 80 (fdG (Of v0 v1 v2 v3) (len v3) 0))] := by
 rw [Yp, ifF (by omega)]
 by_cases c : 80 < (len v3 : Int)
 ·rw [ifT c, ifT c]
 rw [ifF c, ifF c];refine find (F := fun i => GI (.int (len v3 : Nat)) (.int (i : Nat)) v0 v1 v2 v3) (n := len v3) (bad := Of v0 v1 v2 v3) (fun j hj => S7 hs hn hn1 hn2 hj) ?_
 show GI _ (.int (len v3 : Nat)) _ _ _ _ = _;rw [Wl (h0 := rfl) (h1 := rfl) (h2 := rfl), ifF (by omega)]
end
end Uh
namespace Uh
open Go Go.AE
section
variable [Av]
variable {v0 v1 v2 v3 : D}
def UZ (v2 : D) : Int := cond (decide (4 < (len v2 : Int))) 4 (fdG (MB v2) (len v2) 0)
def Xi (v1 : D) : Int := cond (decide ((len v1 : Int) < 1)) 0 (cond (decide (24 < (len v1 : Int))) 24 (fdG (P6 v1) (len v1) 0))
def V4 (v0 v1 v2 v3 : D) : Int := cond (decide (80 < (len v3 : Int))) 80 (fdG (Of v0 v1 v2 v3) (len v3) 0)
def rok (v0 v1 v2 v3 : D) : Bool := nm v0 && (decide (UZ v2 < 0) && (decide (Xi v1 < 0) && decide (V4 v0 v1 v2 v3 < 0)))
end
end Uh
namespace Uh
open Go Go.AE
def B5 (l : D) (i : Nat) : Bool := !decide (fdG (fun j => D.strEq (cl l j 0) (cl l i 0)) i 0 < 0)
def F8 (v1 v5 v8 : D) (i : Nat) : Bool := decide (fd v1 (cl v8 i 0) < 0) || (decide (fd v5 (cl v8 i 1) < 0) || B5 v8 i)
def EK (v2 v6 v9 : D) (i : Nat) : Bool := decide (fd v6 (cl v9 i 0) < 0) || ((!eqC (cl v9 i 1) 0 0 && decide (fd v2 (cl v9 i 1) < 0)) || (B5 v9 i || (decide (1000 < (cl v9 i 2).toInt) || decide ((cl v9 i 2).toInt < (-1000)))))
section
variable [Av]
variable {v0 v1 v2 v3 v4 v5 v6 v7 v8 v9 : D}
def chk (v0 v1 v2 v3 v4 v5 v6 v7 v8 v9 : D) : D := cond (rok v0 v1 v2 v3) (cond (rok v4 v5 v6 v7) (cond (decide (24 < (len v8 : Int))) (.row [.int 1, .int 24, .int 490])
 (cond (decide (fdG (F8 v1 v5 v8) (len v8) 0 < 0)) (cond (decide (4 < (len v9 : Int))) (.row [.int 1, .int 4, .int 491])
  (cond (decide (fdG (EK v2 v6 v9) (len v9) 0 < 0)) (.row [.int 1, .int 0, .int 0]) (.row [.int 1, .int (fdG (EK v2 v6 v9) (len v9) 0).toNat, .int 491])))
  (.row [.int 1, .int (fdG (F8 v1 v5 v8) (len v8) 0).toNat, .int 490]))) (.row [.int 1, .int 0, .int 2])) (.row [.int 1, .int 0, .int 2])
theorem XJ (hn1 : len v1 < 1000) (hn5 : len v5 < 1000) (hn : len v8 < 1000) {b : Bool} : FD v0 v1 v2 v3 v4 v5 v6 v7 v8 v9 (.bool b) (.int 0) D6 = cond (decide (fdG (F8 v1 v5 v8) (len v8) 0 < 0)) (FD v0 v1 v2 v3 v4 v5 v6 v7 v8 v9 (.bool b) (.int (len v8 : Nat)) (Cq (fun j => cl v8 j 0) (len v8))) (.row [.int 1, .int (fdG (F8 v1 v5 v8) (len v8) 0).toNat, .int 490]) :=
 IB (F := fun j => FD v0 v1 v2 v3 v4 v5 v6 v7 v8 v9 (.bool b) (.int (j : Nat)) (Cq (fun j => cl v8 j 0) j)) (n := len v8) (bad := F8 v1 v5 v8) (B := fun j => .row [.int 1, .int (j : Nat), .int 490]) fun i hi => by
  show FD v0 v1 v2 v3 v4 v5 v6 v7 v8 v9 (.bool b) (.int (i : Nat)) (Cq (fun j => cl v8 j 0) i) = cond _ _ (FD v0 v1 v2 v3 v4 v5 v6 v7 v8 v9 (.bool b) (.int (i + 1 : Nat)) (Cq (fun j => cl v8 j 0) (i + 1)))
  rw [TS, ifT (by omega), ifF (by omega), CM (by omega)]
  simp only [Pk (v0 := v1) (by omega), Pk (v0 := v5) (by omega), AZ, AY, Ap, AG, decide_true, cond_true, Mn]
  unfold F8 B5;cases decide (fd v1 (cl v8 i 0) < 0) <;> cases decide (fd v5 (cl v8 i 1) < 0) <;> simp only [cond_true, cond_false, Bool.true_or, Bool.false_or]
  by_cases q : fdG (fun j => D.strEq (cl v8 j 0) (cl v8 i 0)) i 0 < 0
  ·rw [ifT q, decide_eq_true q];show FD v0 v1 v2 v3 v4 v5 v6 v7 v8 v9 (.bool b) (.int (i + 1 : Nat)) (ad (Cq (fun j => cl v8 j 0) i) (.row [(fun j : Nat => cl v8 j 0) i, .bool true])) = FD v0 v1 v2 v3 v4 v5 v6 v7 v8 v9 (.bool b) (.int (i + 1 : Nat)) (Cq (fun j => cl v8 j 0) (i + 1))
   rw [IZ]
  ·have a := HX (p := fun j => D.strEq (cl v8 j 0) (cl v8 i 0)) (k := i) (i := 0)
   rw [ifF q, decide_eq_false q, JQ (by omega) (by omega)]
   rfl
theorem St {n : Int} {α : Type} {x y z : α} (hz : z = cond (decide (1000 < n) || decide (n < (-1000))) x y) : cond (decide (n < IntKind.wrap .i64 (0 - n))) (cond (decide (1000 < IntKind.wrap .i64 (0 - n))) x (cond (decide (n < (-1000))) x y)) (cond (decide (1000 < n)) x (cond (decide (n < (-1000))) x y)) = z := by
 subst hz;by_cases c : 1000 < n
 ·rw [decide_eq_true c, Bool.true_or, cond_true];by_cases q : n < IntKind.wrap .i64 (0 - n)
  ·rw [ifT q, ifT (by omega)]; rfl
  ·rw [ifF q]; rfl
 rw [decide_eq_false c, Bool.false_or, cond_false];by_cases d : n < -1000
 ·rw [ifT d, Bool.cond_self, Bool.cond_self]
 ·rw [ifF d, DA (by omega) (by omega), ifF (p := 1000 < 0 - n) (by omega), Bool.cond_self]
theorem Yl (hn2 : len v2 < 1000) (hn6 : len v6 < 1000) (hn : len v9 < 1000) {b c d : Bool} {m : Int} : Dy v0 v1 v2 v3 v4 v5 v6 v7 v8 v9 (.bool b) (.int m) (.bool c) (.bool d) (.int 0) D6 = cond (decide (fdG (EK v2 v6 v9) (len v9) 0 < 0)) (Dy v0 v1 v2 v3 v4 v5 v6 v7 v8 v9 (.bool b) (.int m) (.bool c) (.bool d) (.int (len v9 : Nat)) (Cq (fun j => cl v9 j 0) (len v9))) (.row [.int 1, .int (fdG (EK v2 v6 v9) (len v9) 0).toNat, .int 491]) :=
 IB (F := fun j => Dy v0 v1 v2 v3 v4 v5 v6 v7 v8 v9 (.bool b) (.int m) (.bool c) (.bool d) (.int (j : Nat)) (Cq (fun j => cl v9 j 0) j)) (n := len v9) (bad := EK v2 v6 v9) (B := fun j => .row [.int 1, .int (j : Nat), .int 491]) fun i hi => by
  show Dy v0 v1 v2 v3 v4 v5 v6 v7 v8 v9 (.bool b) (.int m) (.bool c) (.bool d) (.int (i : Nat)) (Cq (fun j => cl v9 j 0) i) = cond _ _ (Dy v0 v1 v2 v3 v4 v5 v6 v7 v8 v9 (.bool b) (.int m) (.bool c) (.bool d) (.int (i + 1 : Nat)) (Cq (fun j => cl v9 j 0) (i + 1)))
  have hs : ad (Cq (fun j => cl v9 j 0) i) (.row [cl v9 i 0, .bool true]) = Cq (fun j => cl v9 j 0) (i + 1) := IZ (f := fun j => cl v9 j 0)
  rw [T4, ifT (by omega), ifF (by omega), CM (by omega)]
  simp only [L6 (v0 := v2) (by omega), L6 (v0 := v6) (by omega), AZ, AY, Ap, AG, decide_true, cond_true, Mn, hs]
  unfold EK B5;by_cases q : fdG (fun j => D.strEq (cl v9 j 0) (cl v9 i 0)) i 0 < 0
  ·simp only [ifT q, decide_eq_true q];cases decide (fd v6 (cl v9 i 0) < 0) <;> cases eqC (cl v9 i 1) 0 0 <;> cases decide (fd v2 (cl v9 i 1) < 0) <;> first | rfl | (simp only [cond_true, cond_false, Bool.true_or, Bool.false_or, Bool.not_true, Bool.not_false, Bool.true_and, Bool.false_and]; exact St rfl)
  ·have a := HX (p := fun j => D.strEq (cl v9 j 0) (cl v9 i 0)) (k := i) (i := 0)
   simp only [ifF q, decide_eq_false q, JQ (f := fun j : Nat => cl v9 j 0) (i := i) (j := fdG (fun j => D.strEq (cl v9 j 0) (cl v9 i 0)) i 0) (by omega) (by omega)]
   cases decide (fd v6 (cl v9 i 0) < 0) <;> cases eqC (cl v9 i 1) 0 0 <;> cases decide (fd v2 (cl v9 i 1) < 0) <;> rfl
theorem Nz (hs : Dq v3) (hs7 : Dq v7) (hn1 : len v1 < 1000) (hn2 : len v2 < 1000) (hn3 : len v3 < 1000) (hn5 : len v5 < 1000) (hn6 : len v6 < 1000) (hn7 : len v7 < 1000) (hn8 : len v8 < 1000) (hn9 : len v9 < 1000) : Fg v0 v1 v2 v3 v4 v5 v6 v7 v8 v9 = chk v0 v1 v2 v3 v4 v5 v6 v7 v8 v9 := by
 rw [Wx];simp only [OQ, T6 (v2 := v2) hn2, T6 (v2 := v6) hn6, TG (v1 := v1) hn1, TG (v1 := v5) hn5, TN hs hn3 hn1 hn2, TN hs7 hn7 hn5 hn6, AZ, AY, Ap, AG, decide_true, cond_true, XJ hn1 hn5 hn8];unfold chk rok UZ Xi V4;cases nm v0 <;> simp only [cond_true, cond_false, Bool.true_and, Bool.false_and]
 cases decide ((cond (decide (4 < (len v2 : Int))) 4 (fdG (MB v2) (len v2) 0)) < 0) <;> simp only [cond_true, cond_false, Bool.true_and, Bool.false_and]
 cases decide ((cond (decide ((len v1 : Int) < 1)) 0 (cond (decide (24 < (len v1 : Int))) 24 (fdG (P6 v1) (len v1) 0))) < 0) <;> simp only [cond_true, cond_false, Bool.true_and, Bool.false_and]
 cases decide ((cond (decide (80 < (len v3 : Int))) 80 (fdG (Of v0 v1 v2 v3) (len v3) 0)) < 0) <;> simp only [cond_true, cond_false, Bool.true_and, Bool.false_and]
 cases nm v4 <;> simp only [cond_true, cond_false, Bool.true_and, Bool.false_and]
 cases decide ((cond (decide (4 < (len v6 : Int))) 4 (fdG (MB v6) (len v6) 0)) < 0) <;> simp only [cond_true, cond_false, Bool.true_and, Bool.false_and]
 cases decide ((cond (decide ((len v5 : Int) < 1)) 0 (cond (decide (24 < (len v5 : Int))) 24 (fdG (P6 v5) (len v5) 0))) < 0) <;> simp only [cond_true, cond_false, Bool.true_and, Bool.false_and]
 cases decide ((cond (decide (80 < (len v7 : Int))) 80 (fdG (Of v4 v5 v6 v7) (len v7) 0)) < 0) <;> simp only [cond_true, cond_false, Bool.true_and, Bool.false_and]
 congr 2
 rw [TS, ifF (by omega), Yl hn2 hn6 hn9]
 congr 2
 rw [T4, ifF (by omega)]
def Du (v9 : D) : Prop := ∀ i : Nat, i < len v9 → ∃ n, cl v9 i 2 = .int n
end
end Uh
namespace Uh
open Go Go.AE
section
variable [Av]
variable {v0 v1 v2 v3 v4 v5 v10 v11 : D}
def N9 (v2 v11 : D) (i : Nat) : Bool := decide ((cl v11 i 0).toInt < 0) || decide ((cl v2 i 1).toInt < (cl v11 i 0).toInt)
def isC (v1 v2 v10 v11 : D) : Bool := !decide (fd v1 v10 < 0) && (decide ((len v11 : Int) = (len v2 : Int)) && decide (fdG (N9 v2 v11) (len v11) 0 < 0))
def Lb (v11 : D) : Prop := ∀ i : Nat, i < len v11 → ∃ n, cl v11 i 0 = .int n
def kv (v11 : D) (j : Nat) : Int := if j < len v11 then (cl v11 j 0).toInt else 0
theorem Lb.at {v11 : D} (h : Lb v11) {j : Nat} (hj : j < len v11) : cl v11 j 0 = .int (kv v11 j) := by
 obtain ⟨n, e⟩ := h j hj;unfold kv;rw [if_pos hj, e];rfl
theorem Gb {v11 : D} {j : Nat} (hj : len v11 ≤ j) : kv v11 j = 0 := if_neg (by omega)
theorem Uq (hx : Lb v11) (hn1 : len v1 < 1000) (hn2 : len v2 < 1000) : Aj v0 v1 v2 v3 v10 v11 = cond (isC v1 v2 v10 v11) (.row [.int 1, .int (fd v1 v10), .int (kv v11 0), .int (kv v11 1), .int (kv v11 2), .int (kv v11 3), .bool true]) (.row [.int 1, .int (fd v1 v10), .int 0, .int 0, .int 0, .int 0, .bool false]) := by
 rw [VJ];simp only [Pk (v0 := v1) (by omega), AZ, AY, Ap, AG, decide_true, cond_true]
 unfold isC;by_cases c1 : fd v1 v10 < 0
 ·rw [ifT c1, decide_eq_true c1];rfl
 rw [ifF c1, decide_eq_false c1];by_cases c2 : (len v11 : Int) = (len v2 : Int);rotate_left
 ·rw [ifF c2, decide_eq_false c2];rfl
 rw [ifT c2, decide_eq_true c2]
 have L := IB (F := fun j => Iu v11 (.int (j : Nat)) v0 v1 v2 v3 v10 (.int (fd v1 v10))) (n := len v11) (bad := N9 v2 v11) (B := fun _ => .row [.int 1, .int (fd v1 v10), .int 0, .int 0, .int 0, .int 0, .bool false]) (fun j hj => by
  show Iu v11 (.int (j : Nat)) v0 v1 v2 v3 v10 (.int (fd v1 v10)) = cond _ _ (Iu v11 (.int (j + 1 : Nat)) v0 v1 v2 v3 v10 (.int (fd v1 v10)));rw [TL, ifT (by omega), ifF (by omega), CM (by omega), ifT (p := (j : Int) < (len v2 : Int)) (by omega)]
  unfold N9;cases decide ((cl v11 j 0).toInt < 0) <;> cases decide ((cl v2 j 1).toInt < (cl v11 j 0).toInt) <;> rfl)
 refine (show Iu v11 (.int 0) v0 v1 v2 v3 v10 (.int (fd v1 v10)) = _ from L).trans ?_
 show cond (decide (fdG (N9 v2 v11) (len v11) 0 < 0)) (Iu v11 (.int (len v11 : Nat)) v0 v1 v2 v3 v10 (.int (fd v1 v10))) _ = cond (decide (fdG (N9 v2 v11) (len v11) 0 < 0)) _ _
 congr 1
 rw [TL, ifF (by omega)]
 have h0 := hx.at (j := 0);have h1 := hx.at (j := 1);have h2 := hx.at (j := 2);have h3 := hx.at (j := 3);by_cases k : (len v11 : Int) < 4;rotate_left
 ·rw [ifF k, show cl v11 0 0 = .int (kv v11 0) from h0 (by omega), show cl v11 1 0 = .int (kv v11 1) from h1 (by omega), show cl v11 2 0 = .int (kv v11 2) from h2 (by omega), show cl v11 3 0 = .int (kv v11 3) from h3 (by omega)]
 rw [ifT k];by_cases k0 : (len v11 : Int) = 0
 ·rw [ifT k0, Gb (j := 0) (by omega), Gb (j := 1) (by omega), Gb (j := 2) (by omega), Gb (j := 3) (by omega)]
 rw [ifF k0];by_cases k1 : (len v11 : Int) = 1
 ·rw [ifT k1, show cl v11 0 0 = .int (kv v11 0) from h0 (by omega), Gb (j := 1) (by omega), Gb (j := 2) (by omega), Gb (j := 3) (by omega)]
 rw [ifF k1];by_cases k2 : (len v11 : Int) = 2
 ·rw [ifT k2, show cl v11 0 0 = .int (kv v11 0) from h0 (by omega), show cl v11 1 0 = .int (kv v11 1) from h1 (by omega), Gb (j := 2) (by omega), Gb (j := 3) (by omega)]
 rw [ifF k2];have k3 : (len v11 : Int) = 3 := by omega
 rw [ifT k3, show cl v11 0 0 = .int (kv v11 0) from h0 (by omega), show cl v11 1 0 = .int (kv v11 1) from h1 (by omega), show cl v11 2 0 = .int (kv v11 2) from h2 (by omega), Gb (j := 3) (by omega)]
theorem UH {a l a' l' : D} {b b' : Bool} (hs : D.strEq a a' = true) (hl : len l = len l') (hn : len l < 1000) (he : ∀ j : Nat, j < len l → (cl l j 0).toInt = (cl l' j 0).toInt) : Pa a l (.bool b) a' l' (.bool b') = .row [.int 1, .bool true] := by
 rw [VO, cT hs, ifT (by omega)]
 have L := IB (F := fun j => Ik (.int (j : Nat)) l l' a (.bool b) a' (.bool b')) (n := len l) (bad := fun _ => false) (B := fun _ => .row [.int 1, .bool false]) (fun j hj => by
  show Ik (.int (j : Nat)) l l' a (.bool b) a' (.bool b') = cond _ _ (Ik (.int (j + 1 : Nat)) l l' a (.bool b) a' (.bool b'));rw [TV, ifT (by omega), ifF (by omega), CM (by omega), ifT (by omega), ifT (he j hj)]
  rfl)
 refine (show Ik (.int 0) l l' a (.bool b) a' (.bool b') = _ from L).trans ?_
 show cond _ (Ik (.int (len l : Nat)) l l' a (.bool b) a' (.bool b')) _ = _;rw [Hu (fun _ _ _ => rfl), ifT (by omega), TV, ifF (by omega)]
end
end Uh
namespace Uh
open Go Go.AE
def pl (v6 v9 : D) (i : Nat) : Int := fd v6 (cl v9 i 0)
def pv (v2 v9 v11 : D) (i : Nat) : Int := cond (decide (fd v2 (cl v9 i 1) < 0)) (cl v9 i 2).toInt (IntKind.wrap .i64 ((cl v9 i 2).toInt + kv v11 (fd v2 (cl v9 i 1)).toNat))
def vs (v2 v6 v9 v11 : D) (j : Nat) : Nat → Int
 | 0 => 0
 | i + 1 => if pl v6 v9 i = j then pv v2 v9 v11 i else vs v2 v6 v9 v11 j i
theorem FN {v2 v6 v9 v11 : D} {j i : Nat} : vs v2 v6 v9 v11 j (i + 1) = if pl v6 v9 i = j then pv v2 v9 v11 i else vs v2 v6 v9 v11 j i := rfl
def Kl (v2 v6 v9 v11 : D) (i : Nat) : Bool := decide (pv v2 v9 v11 i < 0) || decide ((cl v6 (pl v6 v9 i) 1).toInt < pv v2 v9 v11 i)
section
variable [Av]
variable {v0 v1 v2 v3 v4 v5 v6 v7 v8 v9 v10 v11 : D}
theorem UW {a b c d : Int} {st : Nat} (hn : len v8 < 1000) (h : st < len v1) : J5 v8 v0 v1 v2 v3 (.int (st : Nat)) (.int a) (.int b) (.int c) (.int d) = .row [.int 1, .int (fd v8 (cl v1 st 0))] := by
 rw [WN];refine find (F := fun j => KL v8 (.int (j : Nat)) v0 v1 v2 v3 (.int (st : Nat)) (.int a) (.int b) (.int c) (.int d)) (n := len v8) (bad := fun j => D.strEq (cl v8 j 0) (cl v1 st 0)) (fun j hj => ?_) ?_
 ·show KL v8 (.int (j : Nat)) v0 v1 v2 v3 (.int (st : Nat)) (.int a) (.int b) (.int c) (.int d) = _;rw [TK, ifT (by omega), ifF (by omega), CM (by omega), ifF (by omega), ifT (by omega)]
 ·show KL v8 (.int (len v8 : Nat)) v0 v1 v2 v3 (.int (st : Nat)) (.int a) (.int b) (.int c) (.int d) = _;rw [TK, ifF (by omega)]
theorem QG {st st' : Int} (hp : Du v9) (hn : len v9 < 1000) (h2 : len v2 ≤ 4) (h6 : len v6 ≤ 4) {i : Nat} (hi : i < len v9) (h0 : 0 ≤ pl v6 v9 i) :
  Bo v9 (.int (i : Nat)) v0 v1 v2 v3 v4 v5 v6 v7 (.int st) (.int (kv v11 0)) (.int (kv v11 1)) (.int (kv v11 2)) (.int (kv v11 3)) (.int st') (.int (vs v2 v6 v9 v11 0 i)) (.int (vs v2 v6 v9 v11 1 i)) (.int (vs v2 v6 v9 v11 2 i)) (.int (vs v2 v6 v9 v11 3 i)) =
   cond (Kl v2 v6 v9 v11 i) (.row [.int 1, .int 0, .int 0, .int 0, .int 0, .int 0, .int 3]) (Bo v9 (.int (i + 1 : Nat)) v0 v1 v2 v3 v4 v5 v6 v7 (.int st) (.int (kv v11 0)) (.int (kv v11 1)) (.int (kv v11 2)) (.int (kv v11 3)) (.int st') (.int (vs v2 v6 v9 v11 0 (i + 1))) (.int (vs v2 v6 v9 v11 1 (i + 1))) (.int (vs v2 v6 v9 v11 2 (i + 1))) (.int (vs v2 v6 v9 v11 3 (i + 1)))) := by
 obtain ⟨n, hv⟩ := hp i hi;have hv' : cl v9 i 2 = .int (cl v9 i 2).toInt := by rw [hv]; rfl
 have l1 : pl v6 v9 i < len v6 := CD;have l2 := CD (l := v2) (key := cl v9 i 1);have g2 := W7 (l := v2) (key := cl v9 i 1);have hpl : fd v6 (cl v9 i 0) = pl v6 v9 i := rfl;rw [TY (h0 := rfl), ifT (by omega), ifF (by omega), CM (by omega)]
 simp only [L6 (v0 := v6) (by omega), L6 (v0 := v2) (by omega), AZ, AY, Ap, decide_true, cond_true, hpl, decide_eq_true l1, decide_eq_false (show ¬ pl v6 v9 i < 0 by omega), cond_false]
 have key : ∀ w : Int, pv v2 v9 v11 i = w → cond (decide (w < 0)) (D.row [.int 1, .int 0, .int 0, .int 0, .int 0, .int 0, .int 3]) (cond (decide ((cl v6 (pl v6 v9 i) 1).toInt < w)) (D.row [.int 1, .int 0, .int 0, .int 0, .int 0, .int 0, .int 3])
   (cond (decide (pl v6 v9 i = 0)) (Bo v9 (.int (i + 1 : Nat)) v0 v1 v2 v3 v4 v5 v6 v7 (.int st) (.int (kv v11 0)) (.int (kv v11 1)) (.int (kv v11 2)) (.int (kv v11 3)) (.int st') (.int w) (.int (vs v2 v6 v9 v11 1 i)) (.int (vs v2 v6 v9 v11 2 i)) (.int (vs v2 v6 v9 v11 3 i)))
   (cond (decide (pl v6 v9 i = 1)) (Bo v9 (.int (i + 1 : Nat)) v0 v1 v2 v3 v4 v5 v6 v7 (.int st) (.int (kv v11 0)) (.int (kv v11 1)) (.int (kv v11 2)) (.int (kv v11 3)) (.int st') (.int (vs v2 v6 v9 v11 0 i)) (.int w) (.int (vs v2 v6 v9 v11 2 i)) (.int (vs v2 v6 v9 v11 3 i)))
   (cond (decide (pl v6 v9 i = 2)) (Bo v9 (.int (i + 1 : Nat)) v0 v1 v2 v3 v4 v5 v6 v7 (.int st) (.int (kv v11 0)) (.int (kv v11 1)) (.int (kv v11 2)) (.int (kv v11 3)) (.int st') (.int (vs v2 v6 v9 v11 0 i)) (.int (vs v2 v6 v9 v11 1 i)) (.int w) (.int (vs v2 v6 v9 v11 3 i)))
   (cond (decide (pl v6 v9 i = 3)) (Bo v9 (.int (i + 1 : Nat)) v0 v1 v2 v3 v4 v5 v6 v7 (.int st) (.int (kv v11 0)) (.int (kv v11 1)) (.int (kv v11 2)) (.int (kv v11 3)) (.int st') (.int (vs v2 v6 v9 v11 0 i)) (.int (vs v2 v6 v9 v11 1 i)) (.int (vs v2 v6 v9 v11 2 i)) (.int w)) (D.row [])))))) =
   cond (Kl v2 v6 v9 v11 i) (.row [.int 1, .int 0, .int 0, .int 0, .int 0, .int 0, .int 3]) (Bo v9 (.int (i + 1 : Nat)) v0 v1 v2 v3 v4 v5 v6 v7 (.int st) (.int (kv v11 0)) (.int (kv v11 1)) (.int (kv v11 2)) (.int (kv v11 3)) (.int st') (.int (vs v2 v6 v9 v11 0 (i + 1))) (.int (vs v2 v6 v9 v11 1 (i + 1))) (.int (vs v2 v6 v9 v11 2 (i + 1))) (.int (vs v2 v6 v9 v11 3 (i + 1)))) := by
  intro w hw;unfold Kl;simp only [FN, hw];cases decide (w < 0);rotate_left
  ·rfl
  cases decide ((cl v6 (pl v6 v9 i) 1).toInt < w);rotate_left
  ·rfl
  simp only [cond_false, Bool.false_or];by_cases k0 : pl v6 v9 i = 0
  ·rw [ifT k0, if_pos (by omega), if_neg (by omega), if_neg (by omega), if_neg (by omega)]
  rw [ifF k0];by_cases k1 : pl v6 v9 i = 1
  ·rw [ifT k1, if_neg (by omega), if_pos (by omega), if_neg (by omega), if_neg (by omega)]
  rw [ifF k1];by_cases k2 : pl v6 v9 i = 2
  ·rw [ifT k2, if_neg (by omega), if_neg (by omega), if_pos (by omega), if_neg (by omega)]
  rw [ifF k2];have k3 : pl v6 v9 i = 3 := by omega
  rw [ifT k3, if_neg (by omega), if_neg (by omega), if_neg (by omega), if_pos (by omega)]
 have pvT : fd v2 (cl v9 i 1) < 0 → pv v2 v9 v11 i = (cl v9 i 2).toInt := fun h => ifT h
 have pvF : ∀ m : Nat, fd v2 (cl v9 i 1) = m → pv v2 v9 v11 i = IntKind.wrap .i64 ((cl v9 i 2).toInt + kv v11 m) := fun m h => by
  unfold pv;rw [ifF (by omega), h]
  rfl
 rcases g2 with g | g
 ·rw [ifT (by omega)]
  refine Eq.trans ?_ (key _ (pvT (by omega)))
  rw [← hv']
 rw [ifF (by omega)]
 by_cases k0 : fd v2 (cl v9 i 1) = 0
 ·rw [ifT k0];exact key _ (pvF 0 k0)
 rw [ifF k0];by_cases k1 : fd v2 (cl v9 i 1) = 1
 ·rw [ifT k1];exact key _ (pvF 1 k1)
 rw [ifF k1];by_cases k2 : fd v2 (cl v9 i 1) = 2
 ·rw [ifT k2];exact key _ (pvF 2 k2)
 rw [ifF k2];have k3 : fd v2 (cl v9 i 1) = 3 := by omega
 rw [ifT k3];exact key _ (pvF 3 k3)
theorem Uz {st : Nat} (hp : Du v9) (hn5 : len v5 < 1000) (hn8 : len v8 < 1000) (hn : len v9 < 1000) (h2 : len v2 ≤ 4) (h6 : len v6 ≤ 4) (hst : st < len v1) (h0 : ∀ i, i < len v9 → 0 ≤ pl v6 v9 i) :
  B4 v0 v1 v2 v3 v4 v5 v6 v7 v8 v9 (.int (st : Nat)) (.int (kv v11 0)) (.int (kv v11 1)) (.int (kv v11 2)) (.int (kv v11 3)) = cond (decide (fd v8 (cl v1 st 0) < 0)) (.row [.int 1, .int 0, .int 0, .int 0, .int 0, .int 0, .int 9])
   (cond (decide (fdG (Kl v2 v6 v9 v11) (len v9) 0 < 0)) (.row [.int 1, .int (fd v5 (cl v8 (fd v8 (cl v1 st 0)) 1)), .int (vs v2 v6 v9 v11 0 (len v9)), .int (vs v2 v6 v9 v11 1 (len v9)), .int (vs v2 v6 v9 v11 2 (len v9)), .int (vs v2 v6 v9 v11 3 (len v9)), .int 0]) (.row [.int 1, .int 0, .int 0, .int 0, .int 0, .int 0, .int 3])) := by
 rw [V9];have l := CD (l := v8) (key := cl v1 st 0);simp only [UW hn8 hst, Pk (v0 := v5) (by omega), AZ, AY, Ap, decide_true, cond_true, decide_eq_true l]
 congr 1
 have L := IB (F := fun j => Bo v9 (.int (j : Nat)) v0 v1 v2 v3 v4 v5 v6 v7 (.int (st : Nat)) (.int (kv v11 0)) (.int (kv v11 1)) (.int (kv v11 2)) (.int (kv v11 3)) (.int (fd v5 (cl v8 (fd v8 (cl v1 st 0)) 1))) (.int (vs v2 v6 v9 v11 0 j)) (.int (vs v2 v6 v9 v11 1 j)) (.int (vs v2 v6 v9 v11 2 j)) (.int (vs v2 v6 v9 v11 3 j))) (n := len v9) (bad := Kl v2 v6 v9 v11) (B := fun _ => .row [.int 1, .int 0, .int 0, .int 0, .int 0, .int 0, .int 3]) (fun j hj => QG hp hn h2 h6 hj (h0 j hj))
 refine L.trans ?_
 congr 1
 show Bo v9 (.int (len v9 : Nat)) v0 v1 v2 v3 v4 v5 v6 v7 (.int (st : Nat)) (.int (kv v11 0)) (.int (kv v11 1)) (.int (kv v11 2)) (.int (kv v11 3)) (.int (fd v5 (cl v8 (fd v8 (cl v1 st 0)) 1))) (.int (vs v2 v6 v9 v11 0 (len v9))) (.int (vs v2 v6 v9 v11 1 (len v9))) (.int (vs v2 v6 v9 v11 2 (len v9))) (.int (vs v2 v6 v9 v11 3 (len v9))) = _;rw [TY (h0 := rfl), ifF (by omega)]
theorem Gc {F : Nat → D} {n : Nat} (hs : ∀ j, j < n → F j = F (j + 1)) : F 0 = F n := by
 have := IB (F := F) (n := n) (bad := fun _ => false) (B := fun _ => .row []) (fun j hj => (hs j hj).trans rfl)
 rw [Hu (fun _ _ _ => rfl)] at this
 exact this
end
end Uh
namespace Uh
open Go Go.AE
theorem Rt {l key : D} (hd : ∀ i, i < len l → B5 l i = false) {k : Nat} (hk : k < len l) : D.strEq (cl l k 0) key = decide ((k : Int) = fd l key) := by
 by_cases e : (k : Int) = fd l key
 ·rw [decide_eq_true e, e];exact FG (by omega)
 ·rw [decide_eq_false e];cases q : D.strEq (cl l k 0) key with
  | false => rfl
  | true =>
   have h := Me (p := fun j => D.strEq (cl l j 0) key) (k := len l) (i := 0) (j := k) (Nat.zero_le _) (by omega) q
   have h' : 0 ≤ fd l key ∧ fd l key ≤ k := h;have h1 := FG h'.1;have h2 := hd k hk;unfold B5 at h2
   have h3 : fdG (fun j => D.strEq (cl l j 0) (cl l k 0)) k 0 < 0 := by
    cases c : decide (fdG (fun j => D.strEq (cl l j 0) (cl l k 0)) k 0 < 0) with
    | true => exact dT c
    | false => rw [c] at h2; cases h2
   have h4 := Dt (p := fun j => D.strEq (cl l j 0) (cl l k 0)) (k := k) (i := 0) (j := (fd l key).toNat) (Nat.zero_le _) (.inr ⟨h3, by omega⟩)
   have h5 : (((fd l key).toNat : Nat) : Int) = fd l key := by omega
   have h6 : D.strEq (cl l (((fd l key).toNat : Nat) : Int) 0) (cl l k 0) = false := h4;rw [h5] at h6;have := Lu h1 (Bv.trans q);rw [this] at h6;cases h6
section
variable [Av]
variable {v0 v1 v2 v3 v4 v5 v6 v7 v8 v9 v10 v11 v12 v13 v14 v15 : D}
theorem Ud (hn : len v0 < 1000) (a k : D) (n : Int) : Iw v0 a k (.int n) = .row [.int 1, .int (fd v0 k)] := (Ww ..).trans (Do (F := fun i => OL v0 (.int i) a k (.int n)) (by omega) fun i => WJ ..)
theorem UF (hn : len v0 < 1000) (a k : D) : Lh v0 a k = .row [.int 1, .int (fd v0 k)] := (Vz ..).trans (Do (F := fun i => OW v0 (.int i) a k) (by omega) fun i => W0 ..)
def sR (v12 v14 : D) (i : Nat) : D := .row [cl v12 i 0, cl v14 (fd v14 (cl v12 i 1)) 1]
def SL (v12 v14 : D) : Nat → D
 | 0 => E5
 | i + 1 => cond (decide (fd v14 (cl v12 i 1) < 0)) (SL v12 v14 i) (ad (SL v12 v14 i) (sR v12 v14 i))
def SF (v12 v14 : D) : Nat → Bool
 | 0 => true
 | i + 1 => cond (decide (fd v14 (cl v12 i 1) < 0)) (SF v12 v14 i) false
theorem LM : ∀ {i : Nat}, len (SL v12 v14 i) ≤ i
 | 0 => Nat.le_refl _
 | i + 1 => by
  unfold SL;have := LM (i := i);cases decide (fd v14 (cl v12 i 1) < 0)
  ·show len (ad _ _) ≤ _;rw [B7]; omega
  ·show len (SL v12 v14 i) ≤ _;omega
theorem XW (hn : len v12 < 1000) (hn' : len v14 < 1000) (C : D) (b : Bool) : Gf v12 (.int 0) v14 v15 E5 (.bool true) C (.bool b) = Gf v12 (.int (len v12 : Nat)) v14 v15 (SL v12 v14 (len v12)) (.bool (SF v12 v14 (len v12))) C (.bool b) :=
 Gc (F := fun i => Gf v12 (.int (i : Nat)) v14 v15 (SL v12 v14 i) (.bool (SF v12 v14 i)) C (.bool b)) fun j hj => by
  show Gf v12 (.int (j : Nat)) v14 v15 (SL v12 v14 j) (.bool (SF v12 v14 j)) C (.bool b) = Gf v12 (.int (j + 1 : Nat)) v14 v15 (cond (decide (fd v14 (cl v12 j 1) < 0)) (SL v12 v14 j) (ad (SL v12 v14 j) (sR v12 v14 j))) (.bool (cond (decide (fd v14 (cl v12 j 1) < 0)) (SF v12 v14 j) false)) C (.bool b);have h := UF (v0 := v14) hn' (cl v12 j 0) (cl v12 j 1);have hl := LM (v12 := v12) (v14 := v14) (i := j);rw [T5, ifT (by omega), ifF (by omega), CM (by omega)]
  simp only [h, AZ, AY, Ap, decide_true, cond_true];by_cases c : fd v14 (cl v12 j 1) < 0
  ·simp only [decide_eq_true c, cond_true]
  ·simp only [decide_eq_false c, cond_false];rw [ifT CD, ifT (by omega)]
   rfl
def cO (v13 v15 : D) (i : Nat) : D := cond (decide (fd v13 (cl v15 i 1) < 0)) (Fo 0 0) (cl v13 (fd v13 (cl v15 i 1)) 1)
def cB (v13 v15 : D) (i : Nat) : Int := cond (decide (fd v13 (cl v15 i 1) < 0)) (cl v15 i 2).toInt (IntKind.wrap .i64 ((cl v15 i 2).toInt + (cl v13 (fd v13 (cl v15 i 1)) 2).toInt))
def cR (v13 v15 : D) (i : Nat) : D := .row [cl v15 i 0, cO v13 v15 i, .int (cB v13 v15 i)]
def CL (v13 v15 : D) : Nat → D
 | 0 => E5
 | i + 1 => ad (CL v13 v15 i) (cR v13 v15 i)
def CF : Nat → Bool
 | 0 => true
 | _ + 1 => false
theorem FB : ∀ {i : Nat}, len (CL v13 v15 i) = i
 | 0 => rfl
 | i + 1 => by
  show len (ad _ _) = _;rw [B7, FB]
theorem If {j : Nat} : ∀ {n i : Nat}, i < n → cl (CL v13 v15 n) i j = sl (cR v13 v15 i) j
 | n + 1, i, h => by
  show cl (ad _ _) _ _ = _;rw [Jj (by omega), FB]
  by_cases q : i = n
  ·subst q;rw [if_pos rfl]
  ·rw [if_neg (by omega)]
   exact If (by omega)
theorem S8 {i : Nat} : CL v13 v15 (i + 1) = ad (CL v13 v15 i) (cR v13 v15 i) := rfl
theorem QU (hp : Du v15) (hn : len v13 < 1000) (hn' : len v15 < 1000) {j : Nat} (hj : j < len v15) (b : Bool) : In v13 (CL v13 v15 j) (.bool b) v15 (.int (j : Nat)) = In v13 (ad (CL v13 v15 j) (cR v13 v15 j)) (.bool false) v15 (.int (j + 1 : Nat)) := by
 obtain ⟨n, hb⟩ := hp j hj
 have h : Iw v13 (cl v15 j 0) (cl v15 j 1) (cl v15 j 2) = .row [.int 1, .int (fd v13 (cl v15 j 1))] := by
  rw [hb];exact Ud hn _ _ _
 have hl := FB (v13 := v13) (v15 := v15) (i := j);rw [T2, ifT (by omega), ifF (by omega), CM (by omega)]
 simp only [h, AZ, AY, Ap, decide_true, cond_true];by_cases c : fd v13 (cl v15 j 1) < 0
 ·have e : cR v13 v15 j = .row [cl v15 j 0, Fo 0 0, cl v15 j 2] := by
   unfold cR cO cB;rw [ifT c, ifT c, hb, Ap]
  rw [ifT c, ifT (by omega), e]
 ·have e : cR v13 v15 j = .row [cl v15 j 0, cl v13 (fd v13 (cl v15 j 1)) 1, .int (IntKind.wrap .i64 ((cl v15 j 2).toInt + (cl v13 (fd v13 (cl v15 j 1)) 2).toInt))] := by
   unfold cR cO cB;rw [ifF c, ifF c]
  rw [ifF c, ifT CD, ifT (by omega), e]
theorem Uw (hp : Du v15) (hn : len v13 < 1000) (hn' : len v15 < 1000) : MD v13 v15 = .row [.int 1, CL v13 v15 (len v15), .bool (CF (len v15))] := by
 have h : ∀ k, k ≤ len v15 → In v13 E5 (.bool true) v15 (.int (0 : Nat)) = In v13 (CL v13 v15 k) (.bool (CF k)) v15 (.int (k : Nat)) := fun k => by
  induction k with
  | zero => intro _; rfl
  | succ k ih => intro q; rw [ih (by omega), QU hp hn hn' (by omega), S8, CF]
 rw [WY];refine (h _ (Nat.le_refl _)).trans ?_;rw [T2, ifF (by omega)]
def My (v13 v15 : D) (i : Nat) : Bool := decide (cB v13 v15 i < (-1000)) || decide (1000 < cB v13 v15 i)
def Ie (l : D) : Prop := ∀ i : Nat, i < len l → -1000 ≤ (cl l i 2).toInt ∧ (cl l i 2).toInt ≤ 1000
theorem RF (h13 : Ie v13) (h15 : Ie v15) {i : Nat} (hi : i < len v15) : -2000 ≤ cB v13 v15 i ∧ cB v13 v15 i ≤ 2000 := by
 have a := h15 i hi;unfold cB;by_cases c : fd v13 (cl v15 i 1) < 0
 ·rw [ifT c]; omega
 ·rw [ifF c];have hl := CD (l := v13) (key := cl v15 i 1);have b := h13 (fd v13 (cl v15 i 1)).toNat (by omega)
  have e : (((fd v13 (cl v15 i 1)).toNat : Nat) : Int) = fd v13 (cl v15 i 1) := by omega
  rw [e] at b;rw [DA (by omega) (by omega)]
  omega
theorem UT (h13 : Ie v13) (h15 : Ie v15) (hn' : len v15 < 1000) (b : Bool) : OT (CL v13 v15 (len v15)) (.bool b) = .row [.int 1, .int (fdG (My v13 v15) (len v15) 0)] := by
 rw [Wg];refine find (F := fun i => H7 (CL v13 v15 (len v15)) (.bool b) (.int (i : Nat))) (fun j hj => ?_) ?_
 ·show H7 (CL v13 v15 (len v15)) (.bool b) (.int (j : Nat)) = cond _ _ (H7 (CL v13 v15 (len v15)) (.bool b) (.int (j + 1 : Nat)));have hl := FB (v13 := v13) (v15 := v15) (i := len v15);have hB := RF h13 h15 hj
  have hc : (cl (CL v13 v15 (len v15)) j 2).toInt = cB v13 v15 j := by
   rw [If hj];rfl
  rw [TP, ifT (by omega), ifF (by omega), CM (by omega), hc, DA (by omega) (by omega)]
  unfold My;by_cases c1 : cB v13 v15 j < 0 - cB v13 v15 j
  ·rw [ifT c1];by_cases c2 : 1000 < 0 - cB v13 v15 j
   ·rw [ifT c2, decide_eq_true (show cB v13 v15 j < -1000 by omega)]
    rfl
   ·rw [ifF c2, decide_eq_false (show ¬ cB v13 v15 j < -1000 by omega), decide_eq_false (show ¬ 1000 < cB v13 v15 j by omega)]
    rfl
  ·rw [ifF c1, decide_eq_false (show ¬ cB v13 v15 j < -1000 by omega)]
   rfl
 ·show H7 (CL v13 v15 (len v15)) (.bool b) (.int (len v15 : Nat)) = _;have hl := FB (v13 := v13) (v15 := v15) (i := len v15);rw [TP, ifF (by omega)]
def WG (v12 v13 v14 v15 : D) : D := cond (decide (fdG (My v13 v15) (len v15) 0 < 0)) (.row [.int 1, SL v12 v14 (len v12), .bool (SF v12 v14 (len v12)), CL v13 v15 (len v15), .bool (CF (len v15)), .int 0]) (.row [.int 1, E5, .bool true, E5, .bool true, .int 3])
theorem Yk (hp : Du v15) (h13 : Ie v13) (h15 : Ie v15) (hn2 : len v12 < 1000) (hn3 : len v13 < 1000) (hn4 : len v14 < 1000) (hn5 : len v15 < 1000) : Gf v12 (.int 0) v14 v15 E5 (.bool true) (CL v13 v15 (len v15)) (.bool (CF (len v15))) = WG v12 v13 v14 v15 := by
 rw [XW hn2 hn4, T5, ifF (by omega)]
 simp only [UT h13 h15 hn5, AZ, AY, Ap, decide_true, cond_true];rfl
end
end Uh
namespace Uh
open Go Go.AE
section
variable [Av]
variable {v0 v1 v2 v3 v4 v5 v6 v7 v8 v9 v10 v11 v12 v13 v14 v15 v16 v17 : D}
def Rp (P : Prop) (x : D) : Prop := ∃ b : Bool, x = .row [.int 1, .bool b] ∧ (b = true → P)
theorem Rp.no {P : Prop} : Rp P (.row [.int 1, .bool false]) := ⟨_, rfl, fun h => by cases h⟩
theorem Rp.c {P : Prop} {c : Bool} {x y : D} (h : Rp P x) (h' : Rp P y) : Rp P (cond c x y) := by cases c <;> assumption
theorem Rp.i {P p : Prop} [Decidable p] {y : D} (h : ¬ p → Rp P y) : Rp P (cond (decide p) (.row [.int 1, .bool false]) y) := by
 by_cases c : p
 ·rw [ifT c]; exact .no
 ·rw [ifF c]; exact h c
def Txt (v3 : D) (i : Nat) : Prop := ∀ j : Nat, i ≤ j → j < len v3 → Bw (cl v3 j 3) ≤ 40 ∧ Bw (cl v3 j 4) ≤ 40
theorem QD (hn : len v3 < 1000) (s : Int) : ∀ {k i : Nat}, i + k = len v3 → Rp (Txt v3 i) (S4 (.int s) (.int (i : Nat)) v0 v1 v2 v3)
 | 0, i, h => by rw [Vf, ifF (by omega)]; exact ⟨_, rfl, fun _ j _ _ => by omega⟩
 | k + 1, i, h => by
  rw [Vf, ifT (by omega), ifF (by omega), CM (by omega)]
  refine .i fun _ => .i fun _ => .i fun c1 => .i fun c2 => .i fun _ => ?_
  obtain ⟨b, q, hb⟩ := QD hn s (k := k) (i := i + 1) (by omega)
  refine ⟨b, q, fun z j h1 h2 => ?_⟩
  by_cases d : j = i
  ·subst d;exact ⟨by omega, by omega⟩
  ·exact hb z j (by omega) h2
theorem Q0 (hn : len v1 < 1000) (hn3 : len v3 < 1000) (s : Int) : ∀ {k i : Nat}, i + k = len v1 → Rp (Txt v3 0) (Sw (.int s) (.int (i : Nat)) v0 v1 v2 v3)
 | 0, i, h => by rw [VN, ifF (by omega)]; exact QD (i := 0) (k := len v3) hn3 s (by omega)
 | k + 1, i, h => by
  rw [VN, ifT (by omega), ifF (by omega), CM (by omega)]
  exact .i fun _ => Q0 hn hn3 s (k := k) (by omega)
theorem Mb (hn : len v1 < 1000) (hn2 : len v2 < 1000) (hn3 : len v3 < 1000) : ∀ {k i : Nat} (s : Int), i + k = len v2 → Rp (Txt v3 0) (PG (.int s) (.int (i : Nat)) v0 v1 v2 v3)
 | 0, i, s, h => by rw [W5, ifF (by omega)]; exact Q0 (i := 0) (k := len v1) hn hn3 s (by omega)
 | k + 1, i, s, h => by
  rw [W5, ifT (by omega), ifF (by omega), CM (by omega)]
  exact .c (.i fun _ => Mb hn hn2 hn3 _ (k := k) (by omega)) (.c (.i fun _ => Mb hn hn2 hn3 _ (k := k) (by omega)) (.i fun _ => Mb hn hn2 hn3 _ (k := k) (by omega)))
def MI (v3 : D) : Prop := ∀ i : Nat, i < len v3 → (∃ n, cl v3 i 2 = .int n) ∧ (∃ n, cl v3 i 6 = .int n) ∧ (∃ n, cl v3 i 7 = .int n) ∧ (∃ n, cl v3 i 8 = .int n)
theorem I8 (v0 v1 v2 v3 : D) : ∃ b, Ng v0 v1 v2 v3 = .row [.int 1, .bool b] ∧ (b = true → len v1 ≤ 6 ∧ len v2 ≤ 5 ∧ len v3 ≤ 12 ∧ (MI v3 → Dq v3)) := by
 rw [XG];by_cases c1 : 6 < (len v1 : Int)
 ·rw [ifT c1]; exact ⟨_, rfl, fun h => by cases h⟩
 by_cases c2 : 12 < (len v3 : Int)
 ·rw [ifF c1, ifT c2]; exact ⟨_, rfl, fun h => by cases h⟩
 by_cases c3 : 5 < (len v2 : Int)
 ·rw [ifF c1, ifF c2, ifT c3]; exact ⟨_, rfl, fun h => by cases h⟩
 rw [ifF c1, ifF c2, ifF c3];obtain ⟨b, hb, ht⟩ := Rp.i (p := 40 < (Bw v0 : Int)) fun _ => Mb (v0 := v0) (v1 := v1) (v2 := v2) (v3 := v3) (i := 0) (k := len v2) (by omega) (by omega) (by omega) 0 (by omega)
 refine ⟨b, hb, fun z => ⟨by omega, by omega, by omega, fun hi i h => ?_⟩⟩
 obtain ⟨q1, q2, q3, q4⟩ := hi i h;obtain ⟨t1, t2⟩ := ht z i (by omega) h
 exact ⟨q1, q2, q3, q4, by omega, by omega⟩
theorem ON (h : fdG (EK v2 v6 v9) (len v9) 0 < 0) {i : Nat} (hi : i < len v9) : B5 v9 i = false ∧ -1000 ≤ (cl v9 i 2).toInt ∧ (cl v9 i 2).toInt ≤ 1000 := by
 have n := Dt (p := EK v2 v6 v9) (k := len v9) (i := 0) (j := i) (by omega) (.inr ⟨h, by omega⟩)
 unfold EK at n;simp only [Bool.or_eq_false_iff] at n;have a := dF n.2.2.2.1;have b := dF n.2.2.2.2;exact ⟨n.2.2.1, by omega, by omega⟩
theorem UU (r1 : rok v0 v1 v2 v3 = true) (r2 : rok v4 v5 v6 v7 = true) (l8 : len v8 ≤ 24) (p : fdG (F8 v1 v5 v8) (len v8) 0 < 0) (l9 : len v9 ≤ 4) (q : fdG (EK v2 v6 v9) (len v9) 0 < 0) : chk v0 v1 v2 v3 v4 v5 v6 v7 v8 v9 = .row [.int 1, .int 0, .int 0] := by
 unfold chk;rw [cT r1, cT r2, ifF (by omega), ifT p, ifF (by omega), ifT q]
theorem HE (v0 v1 v2 v3 v4 v5 v6 v7 v8 v9 : D) : ∃ a e, chk v0 v1 v2 v3 v4 v5 v6 v7 v8 v9 = .row [.int 1, .int a, .int e] ∧ (e = 0 → rok v0 v1 v2 v3 = true ∧ rok v4 v5 v6 v7 = true ∧ len v8 ≤ 24 ∧ (fdG (F8 v1 v5 v8) (len v8) 0 < 0) ∧ len v9 ≤ 4 ∧ (fdG (EK v2 v6 v9) (len v9) 0 < 0)) := by
 unfold chk;cases rok v0 v1 v2 v3
 ·exact ⟨_, _, rfl, fun h => by cases h⟩
 cases rok v4 v5 v6 v7
 ·exact ⟨_, _, rfl, fun h => by cases h⟩
 simp only [cond_true];by_cases c1 : 24 < (len v8 : Int)
 ·rw [ifT c1]; exact ⟨_, _, rfl, fun h => by cases h⟩
 rw [ifF c1];by_cases c2 : fdG (F8 v1 v5 v8) (len v8) 0 < 0;rotate_left
 ·rw [ifF c2]; exact ⟨_, _, rfl, fun h => by cases h⟩
 rw [ifT c2];by_cases c3 : 4 < (len v9 : Int)
 ·rw [ifT c3]; exact ⟨_, _, rfl, fun h => by cases h⟩
 rw [ifF c3];by_cases c4 : fdG (EK v2 v6 v9) (len v9) 0 < 0;rotate_left
 ·rw [ifF c4]; exact ⟨_, _, rfl, fun h => by cases h⟩
 rw [ifT c4];exact ⟨_, _, rfl, fun _ => ⟨by simp, by simp, by omega, c2, by omega, c4⟩⟩
theorem IW (h : rok v0 v1 v2 v3 = true) : len v2 ≤ 4 ∧ ∀ j : Nat, j < len v2 → nm (cl v2 j 0) = true ∧ 1 ≤ (cl v2 j 1).toInt ∧ (cl v2 j 1).toInt ≤ 1000 := by
 unfold rok at h;simp only [Bool.and_eq_true] at h;obtain ⟨_, h, _, _⟩ := h;unfold UZ at h;by_cases c : 4 < (len v2 : Int)
 ·rw [ifT c] at h;cases h
 rw [ifF c] at h;refine ⟨by omega, fun j hj => ?_⟩
 have n := Dt (p := MB v2) (k := len v2) (i := 0) (j := j) (by omega) (.inr ⟨dT h, by omega⟩)
 unfold MB at n;simp only [Bool.or_eq_false_iff, Bool.not_eq_false'] at n;have a := dF n.1.2;have b := dF n.2;exact ⟨n.1.1.1, by omega, by omega⟩
structure OkA (v0 v1 v2 v3 v4 v5 v6 v7 v8 v9 v10 v11 : D) : Prop where
 r1 : rok v0 v1 v2 v3 = true
 r2 : rok v4 v5 v6 v7 = true
 l8 : len v8 ≤ 24
 p : fdG (F8 v1 v5 v8) (len v8) 0 < 0
 l9 : len v9 ≤ 4
 q : fdG (EK v2 v6 v9) (len v9) 0 < 0
 is : isC v1 v2 v10 v11 = true
 st : 0 ≤ fd v8 v10
 rg : fdG (Kl v2 v6 v9 v11) (len v9) 0 < 0
theorem Si (h : isC v1 v2 v10 v11 = true) : 0 ≤ fd v1 v10 ∧ len v11 = len v2 ∧ ∀ j : Nat, j < len v2 → 0 ≤ kv v11 j ∧ kv v11 j ≤ (cl v2 j 1).toInt := by
 unfold isC at h;simp only [Bool.and_eq_true, Bool.not_eq_true'] at h;obtain ⟨i1, i2, i3⟩ := h;have i1 := dF i1;have i2 := dT i2;have i3 := dT i3;refine ⟨by omega, by omega, fun j hj => ?_⟩
 have n := Dt (p := N9 v2 v11) (k := len v11) (i := 0) (j := j) (by omega) (.inr ⟨i3, by omega⟩)
 unfold N9 at n;simp only [Bool.or_eq_false_iff] at n;have a := dF n.1;have b := dF n.2;unfold kv;rw [if_pos (by omega)]
 exact ⟨by omega, by omega⟩
theorem Jn {l a b : D} (h : D.strEq a b = true) : fd l a = fd l b := by
 unfold fd;refine FS fun j _ _ => ?_
 show D.strEq (cl l j 0) a = D.strEq (cl l j 0) b;rw [Bv, EN h, Bv]
theorem Kb (hs : Dq v3) (hs7 : Dq v7) (hp : Du v9) (hx : Lb v11) (hn1 : len v1 < 1000) (hn2 : len v2 < 1000) (hn3 : len v3 < 1000) (hn5 : len v5 < 1000) (hn6 : len v6 < 1000) (hn7 : len v7 < 1000) (hn8 : len v8 < 1000) (hn9 : len v9 < 1000) :
  ∃ S L b e, AQ v0 v1 v2 v3 v4 v5 v6 v7 v8 v9 v10 v11 = .row [.int 1, S, L, .bool b, .int e] ∧ (e = 0 → OkA v0 v1 v2 v3 v4 v5 v6 v7 v8 v9 v10 v11) ∧
   (OkA v0 v1 v2 v3 v4 v5 v6 v7 v8 v9 v10 v11 → e = 0 ∧ S = cl v5 (fd v5 (cl v8 (fd v8 v10) 1)) 0 ∧ len L = len v6 ∧ ∀ j : Nat, j < len v6 → cl L j 0 = .int (vs v2 v6 v9 v11 j (len v9))) := by
 have E := U6 v0 v1 v2 v3 v4 v5 v6 v7 v8 v9 v10 v11;obtain ⟨a, e, hc, he⟩ := HE v0 v1 v2 v3 v4 v5 v6 v7 v8 v9;have H10 := (Nz (v0 := v0) (v1 := v1) (v2 := v2) (v3 := v3) (v4 := v4) (v5 := v5) (v6 := v6) (v7 := v7) (v8 := v8) (v9 := v9) hs hs7 hn1 hn2 hn3 hn5 hn6 hn7 hn8 hn9).trans hc;have H19 := Uq (v0 := v0) (v1 := v1) (v2 := v2) (v3 := v3) (v10 := v10) (v11 := v11) hx hn1 hn2;by_cases c : e = 0;rotate_left
 ·simp only [H10, AZ, AY, Ap, AG, decide_true, cond_true, c, decide_false, cond_false] at E;refine ⟨_, _, _, _, E, fun h => absurd h c, fun h => ?_⟩
  rw [UU h.r1 h.r2 h.l8 h.p h.l9 h.q] at hc;injection hc with hc
  injection hc with _ hc
  injection hc with _ hc
  injection hc with hc
  injection hc with hc
  exact absurd hc.symm c
 obtain ⟨r1, r2, l8, p, l9, q⟩ := he c;subst c;cases hi : isC v1 v2 v10 v11
 ·rw [hi] at H19;simp only [cond_false] at H19;simp only [H10, H19, AZ, AY, Ap, AG, decide_true, cond_true, cond_false] at E;refine ⟨_, _, _, _, E, fun h => (by cases h), fun h => ?_⟩
  rw [h.is] at hi;cases hi
 rw [hi] at H19;simp only [cond_true] at H19;obtain ⟨q2, _⟩ := IW r1;obtain ⟨q6, lim⟩ := IW r2;obtain ⟨i1, i2, i3⟩ := Si hi
 have Q : ∀ i, i < len v9 → 0 ≤ pl v6 v9 i := fun i h => by
  have n := Dt (p := EK v2 v6 v9) (k := len v9) (i := 0) (j := i) (by omega) (.inr ⟨q, by omega⟩)
  unfold EK at n;simp only [Bool.or_eq_false_iff] at n;exact Int.not_lt.1 (dF n.1)
 have lst := CD (l := v1) (key := v10);have est : ((fd v1 v10).toNat : Int) = fd v1 v10 := by omega
 have H21 := Uz (v0 := v0) (v1 := v1) (v2 := v2) (v3 := v3) (v4 := v4) (v5 := v5) (v6 := v6) (v7 := v7) (v8 := v8) (v9 := v9) (v11 := v11) (st := (fd v1 v10).toNat) hp (by omega) (by omega) (by omega) q2 q6 (by omega) Q
 rw [est, Jn (FG i1)] at H21;by_cases d1 : fd v8 v10 < 0
 ·rw [ifT d1] at H21;simp only [H10, H19, H21, AZ, AY, Ap, AG, decide_true, cond_true, cond_false, Int.reduceEq, decide_false] at E;exact ⟨_, _, _, _, E, fun h => (by cases h), fun h => absurd h.st (by omega)⟩
 rw [ifF d1] at H21;by_cases d2 : fdG (Kl v2 v6 v9 v11) (len v9) 0 < 0;rotate_left
 ·rw [ifF d2] at H21;simp only [H10, H19, H21, AZ, AY, Ap, AG, decide_true, cond_true, cond_false, Int.reduceEq, decide_false] at E;exact ⟨_, _, _, _, E, fun h => (by cases h), fun h => absurd h.rg d2⟩
 rw [ifT d2] at H21
 have P8 : 0 ≤ fd v5 (cl v8 (fd v8 v10) 1) := by
  have l8' := CD (l := v8) (key := v10);have e8 : (((fd v8 v10).toNat : Nat) : Int) = fd v8 v10 := by omega
  have n := Dt (p := F8 v1 v5 v8) (k := len v8) (i := 0) (j := (fd v8 v10).toNat) (by omega) (.inr ⟨p, by omega⟩)
  unfold F8 at n;simp only [Bool.or_eq_false_iff] at n;have n := dF n.2.1;rw [e8] at n;omega
 have l5 := CD (l := v5) (key := cl v8 (fd v8 v10) 1);have m1 : decide (fd v5 (cl v8 (fd v8 v10) 1) < 0) = false := decide_eq_false (by omega)
 have m2 : decide (fd v5 (cl v8 (fd v8 v10) 1) < (len v5 : Int)) = true := decide_eq_true l5;simp only [H10, H19, H21, AZ, AY, Ap, AG, decide_true, cond_true, cond_false, Int.reduceEq, decide_false, m1, m2] at E;have ok : OkA v0 v1 v2 v3 v4 v5 v6 v7 v8 v9 v10 v11 := ⟨r1, r2, l8, p, l9, q, hi, by omega, d2⟩
 by_cases n0 : (len v6 : Int) = 0
 ·rw [ifT n0] at E;exact ⟨_, _, _, _, E, fun _ => ok, fun _ => ⟨rfl, rfl, by rw [Dv]; omega, fun j hj => by omega⟩⟩
 rw [ifF n0] at E;by_cases n1 : (len v6 : Int) = 1
 ·rw [ifT n1] at E
  exact ⟨_, _, _, _, E, fun _ => ok, fun _ => ⟨rfl, rfl, by rw [B7, Dv]; omega, fun j hj => by
   match j with
   | 0 => rfl
   | j + 1 => omega⟩⟩
 rw [ifF n1] at E;by_cases n2 : (len v6 : Int) = 2
 ·rw [ifT n2] at E
  exact ⟨_, _, _, _, E, fun _ => ok, fun _ => ⟨rfl, rfl, by rw [B7, B7, Dv]; omega, fun j hj => by
   match j with
   | 0 => rfl
   | 1 => rfl
   | j + 2 => omega⟩⟩
 rw [ifF n2] at E;by_cases n3 : (len v6 : Int) = 3
 ·rw [ifT n3] at E
  exact ⟨_, _, _, _, E, fun _ => ok, fun _ => ⟨rfl, rfl, by rw [B7, B7, B7, Dv]; omega, fun j hj => by
   match j with
   | 0 => rfl
   | 1 => rfl
   | 2 => rfl
   | j + 3 => omega⟩⟩
 rw [ifF n3, ifT (by omega)] at E
 exact ⟨_, _, _, _, E, fun _ => ok, fun _ => ⟨rfl, rfl, by rw [B7, B7, B7, B7, Dv]; omega, fun j hj => by
   match j with
   | 0 => rfl
   | 1 => rfl
   | 2 => rfl
   | 3 => rfl
   | j + 4 => omega⟩⟩
end
end Uh
namespace Uh
open Go Go.AE
section
variable [Av]
variable {v0 v1 v2 v3 v4 v5 v6 v7 v8 v9 v10 v11 v12 v13 v14 v15 v16 v17 L : D} {b : Bool}
theorem VU {j i : Nat} : vs v2 v6 v9 v11 j i = 0 ∨ ∃ k, k < i ∧ pl v6 v9 k = j ∧ vs v2 v6 v9 v11 j i = pv v2 v9 v11 k := by
 induction i with
 | zero => exact .inl rfl
 | succ i ih =>
  rw [FN];by_cases c : pl v6 v9 i = j
  ·rw [if_pos c];exact .inr ⟨i, by omega, c, rfl⟩
  ·rw [if_neg c];rcases ih with h | ⟨k, h1, h2, h3⟩
   ·exact .inl h
   ·exact .inr ⟨k, by omega, h2, h3⟩
theorem OU {j i : Nat} : ∀ {n : Nat}, i + 1 + n ≤ len v9 → pl v6 v9 i = j → (∀ k, i < k → k < len v9 → pl v6 v9 k ≠ j) → vs v2 v6 v9 v11 j (i + 1 + n) = pv v2 v9 v11 i
 | 0, _, h, _ => by
  show vs v2 v6 v9 v11 j (i + 1) = _;rw [FN, if_pos h]
 | n + 1, hn, h, hk => by
  show vs v2 v6 v9 v11 j (i + 1 + n + 1) = _;rw [FN, if_neg (hk _ (by omega) (by omega))]
  exact OU (by omega) h hk
theorem WK {i k : Nat} (hd : ∀ i, i < len v9 → B5 v9 i = false) (h0 : ∀ i, i < len v9 → 0 ≤ pl v6 v9 i) (h : i < k) (hk : k < len v9) : pl v6 v9 k ≠ pl v6 v9 i := by
 intro e;have a := FG (h0 i (by omega))
 have b := FG (h0 k hk);have e : fd v6 (cl v9 k 0) = fd v6 (cl v9 i 0) := e;rw [e, EN a] at b;have t := hd k hk;unfold B5 at t;have t : decide (fdG (fun j => D.strEq (cl v9 j 0) (cl v9 k 0)) k 0 < 0) = true := by simpa using t
 have n := Dt (p := fun j => D.strEq (cl v9 j 0) (cl v9 k 0)) (k := k) (i := 0) (j := i) (by omega) (.inr ⟨dT t, by omega⟩)
 have n : D.strEq (cl v9 i 0) (cl v9 k 0) = false := n;rw [b] at n;cases n
theorem WZ (h13 : Ie v13) (h15 : Ie v15) (hd : ∀ i, i < len v13 → B5 v13 i = false) (h0 : ∀ i, i < len v13 → 0 ≤ pl v6 v13 i) (hno : fd v2 (Fo 0 0) < 0)
  (hk : ∀ m : Nat, m < len v6 → kv L m = vs v2 v6 v13 v17 m (len v13)) (hv : ∀ j : Nat, j < len v2 → 0 ≤ kv v17 j ∧ kv v17 j ≤ 1000) {i : Nat} (hi : i < len v15) :
  pv v2 (ni (CL v13 v15 (len v15)) b) v17 i = pv v6 v15 L i := by
 have c1 : cl (ni (CL v13 v15 (len v15)) b) i 1 = cO v13 v15 i := by
  rw [G2, If hi];rfl
 have c2 : (cl (ni (CL v13 v15 (len v15)) b) i 2).toInt = cB v13 v15 i := by
  rw [G2, If hi];rfl
 have hb := h15 i hi;unfold pv;rw [c1, c2];unfold cO cB;have l6 := CD (l := v6) (key := cl v15 i 1);by_cases c : fd v13 (cl v15 i 1) < 0
 ·simp only [decide_eq_true c, cond_true];rw [ifT hno];by_cases m : fd v6 (cl v15 i 1) < 0
  ·rw [ifT m]
  ·rw [ifF m, hk _ (by omega)]
   have z : vs v2 v6 v13 v17 (fd v6 (cl v15 i 1)).toNat (len v13) = 0 := by
    rcases VU (v2 := v2) (v6 := v6) (v9 := v13) (v11 := v17) (j := (fd v6 (cl v15 i 1)).toNat) (i := len v13) with e | ⟨k, q1, q2, q3⟩
    ·exact e
    ·exfalso
     have e : fd v6 (cl v13 k 0) = fd v6 (cl v15 i 1) := by
      have : fd v6 (cl v13 k 0) = (((fd v6 (cl v15 i 1)).toNat : Nat) : Int) := q2;omega
     have s1 := FG (l := v6) (key := cl v13 k 0) (by omega)
     have s2 := FG (l := v6) (key := cl v15 i 1) (by omega)
     rw [e, EN s2] at s1;have s3 : D.strEq (cl v13 k 0) (cl v15 i 1) = true := Bv.trans s1;have := Me (p := fun j => D.strEq (cl v13 j 0) (cl v15 i 1)) (k := len v13) (i := 0) (j := k) (Nat.zero_le _) (by omega) s3
     have : 0 ≤ fd v13 (cl v15 i 1) ∧ fd v13 (cl v15 i 1) ≤ k := this;omega
   rw [z, DA (by omega) (by omega)]
   omega
 ·simp only [decide_eq_false c, cond_false];have l13 := CD (l := v13) (key := cl v15 i 1);have e : (((fd v13 (cl v15 i 1)).toNat : Nat) : Int) = fd v13 (cl v15 i 1) := by omega
  have s := FG (l := v13) (key := cl v15 i 1) (by omega)
  have m := Jn (l := v6) s;have m0 := h0 (fd v13 (cl v15 i 1)).toNat (by omega)
  have m1 : pl v6 v13 (fd v13 (cl v15 i 1)).toNat = fd v6 (cl v15 i 1) := by
   unfold pl;rw [e, m]
  have ha := h13 (fd v13 (cl v15 i 1)).toNat (by omega)
  rw [e] at ha;have k := OU (v2 := v2) (v6 := v6) (v9 := v13) (v11 := v17) (j := (fd v6 (cl v15 i 1)).toNat) (i := (fd v13 (cl v15 i 1)).toNat) (n := len v13 - ((fd v13 (cl v15 i 1)).toNat + 1)) (by omega) (by omega) (fun k hk hk' c => WK hd h0 hk hk' (by omega))
  rw [show (fd v13 (cl v15 i 1)).toNat + 1 + (len v13 - ((fd v13 (cl v15 i 1)).toNat + 1)) = len v13 by omega] at k
  rw [ifF (show ¬ fd v6 (cl v15 i 1) < 0 by omega), hk _ (by omega), k]
  unfold pv;rw [e];by_cases o : fd v2 (cl v13 (fd v13 (cl v15 i 1)) 1) < 0
  ·rw [ifT o, ifT o]
  ·have l2 := CD (l := v2) (key := cl v13 (fd v13 (cl v15 i 1)) 1);have w := hv (fd v2 (cl v13 (fd v13 (cl v15 i 1)) 1)).toNat (by omega)
   rw [ifF o, ifF o, DA (a := (cl v15 i 2).toInt + (cl v13 (fd v13 (cl v15 i 1)) 2).toInt) (by omega) (by omega), DA (a := (cl v13 (fd v13 (cl v15 i 1)) 2).toInt + _) (by omega) (by omega), Int.add_assoc]
theorem TI (hp : ∀ i : Nat, i < len v15 → pv v2 v9 v17 i = pv v6 v15 L i) (hl : ∀ i : Nat, i < len v15 → pl v10 v9 i = pl v10 v15 i) {j : Nat} : ∀ {n : Nat}, n ≤ len v15 → vs v2 v10 v9 v17 j n = vs v6 v10 v15 L j n
 | 0, _ => rfl
 | n + 1, h => by rw [FN, FN, hp n (by omega), hl n (by omega), TI hp hl (by omega)]
theorem Px {j : Nat} : ∀ {n k : Nat}, k < len (SL v12 v14 n) → ∃ i, i < n ∧ 0 ≤ fd v14 (cl v12 i 1) ∧ ∀ j, cl (SL v12 v14 n) k j = sl (sR v12 v14 i) j
 | 0, k, h => by
  have : k < 0 := h;omega
 | n + 1, k, h => by
  unfold SL at h ⊢;by_cases c : fd v14 (cl v12 n 1) < 0
  ·rw [decide_eq_true c] at h ⊢;obtain ⟨i, h1, h2, h3⟩ := Px (j := j) h;exact ⟨i, by omega, h2, h3⟩
  ·rw [decide_eq_false c] at h ⊢;have h : k < len (ad (SL v12 v14 n) (sR v12 v14 n)) := h;rw [B7] at h;by_cases q : k = len (SL v12 v14 n)
   ·refine ⟨n, by omega, by omega, fun j => ?_⟩
    show cl (ad (SL v12 v14 n) (sR v12 v14 n)) k j = _;rw [Jj (by omega), if_pos (by omega)]
   ·obtain ⟨i, h1, h2, h3⟩ := Px (j := j) (n := n) (k := k) (by omega)
    refine ⟨i, by omega, h2, fun j => ?_⟩
    show cl (ad (SL v12 v14 n) (sR v12 v14 n)) k j = _;rw [Jj (by omega), if_neg (by omega)]
    exact h3 j
theorem RX {i : Nat} (h0 : 0 ≤ fd v14 (cl v12 i 1)) : ∀ {n : Nat}, i < n → ∃ k, k < len (SL v12 v14 n) ∧ ∀ j, cl (SL v12 v14 n) k j = sl (sR v12 v14 i) j
 | n + 1, h => by
  unfold SL;by_cases q : i = n
  ·subst q;rw [decide_eq_false (show ¬ fd v14 (cl v12 i 1) < 0 by omega)]
   refine ⟨len (SL v12 v14 i), ?_, fun j => ?_⟩
   ·show _ < len (ad _ _);rw [B7];omega
   ·show cl (ad (SL v12 v14 i) (sR v12 v14 i)) _ j = _;rw [Jj (by omega), if_pos rfl]
  ·obtain ⟨k, h1, h2⟩ := RX h0 (n := n) (by omega)
   cases decide (fd v14 (cl v12 n 1) < 0)
   ·refine ⟨k, ?_, fun j => ?_⟩
    ·show _ < len (ad _ _);rw [B7];omega
    ·show cl (ad (SL v12 v14 n) (sR v12 v14 n)) _ j = _;rw [Jj (by omega), if_neg (by omega)]
     exact h2 j
   ·exact ⟨k, h1, h2⟩
theorem M1 {l : D} {i k : Nat} (h : B5 l k = false) (hi : i < k) : D.strEq (cl l i 0) (cl l k 0) = false := by
 unfold B5 at h;have t : decide (fdG (fun j => D.strEq (cl l j 0) (cl l k 0)) k 0 < 0) = true := by simpa using h
 exact Dt (p := fun j => D.strEq (cl l j 0) (cl l k 0)) (k := k) (i := 0) (j := i) (by omega) (.inr ⟨dT t, by omega⟩)
theorem Rd (hd : ∀ i, i < len v12 → B5 v12 i = false) : ∀ {n : Nat}, n ≤ len v12 → ∀ {k k' : Nat}, k < k' → k' < len (SL v12 v14 n) → D.strEq (cl (SL v12 v14 n) k 0) (cl (SL v12 v14 n) k' 0) = false
 | 0, _, k, k', _, h => by
  have : k' < 0 := h;omega
 | n + 1, hn, k, k', h, h' => by
  unfold SL at h' ⊢;by_cases c : fd v14 (cl v12 n 1) < 0
  ·rw [decide_eq_true c] at h' ⊢;exact Rd hd (by omega) h h'
  ·rw [decide_eq_false c] at h' ⊢;have h' : k' < len (ad (SL v12 v14 n) (sR v12 v14 n)) := h';rw [B7] at h';show D.strEq (cl (ad (SL v12 v14 n) (sR v12 v14 n)) k 0) (cl (ad (SL v12 v14 n) (sR v12 v14 n)) k' 0) = false;rw [Jj (by omega), Jj (by omega), if_neg (by omega)]
   by_cases q : k' = len (SL v12 v14 n)
   ·rw [if_pos (by omega)]
    obtain ⟨i, h1, h2, h3⟩ := Px (j := 0) (v12 := v12) (v14 := v14) (n := n) (k := k) (by omega)
    rw [h3];exact M1 (hd n (by omega)) h1
   ·rw [if_neg (by omega)]
    exact Rd hd (by omega) h (by omega)
theorem MG {l : D} {k : Nat} (h : ∀ i, i < k → D.strEq (cl l i 0) (cl l k 0) = false) : B5 l k = false := by
 unfold B5;rw [Hu (p := fun j => D.strEq (cl l j 0) (cl l k 0)) fun j _ hj => h j (by omega)]
 rfl
theorem Nd (hd : ∀ i, i < len v12 → B5 v12 i = false) {k : Nat} (hk : k < len (SL v12 v14 (len v12))) : B5 (SL v12 v14 (len v12)) k = false :=
 MG fun i hi => Rd hd (Nat.le_refl _) hi hk
theorem V6 (hd : ∀ i, i < len v12 → B5 v12 i = false) {S : D} (h0 : 0 ≤ fd v12 v16) (hS : D.strEq S (cl v12 (fd v12 v16) 1) = true) (h1 : 0 ≤ fd v14 S) :
  0 ≤ fd (SL v12 v14 (len v12)) v16 ∧ cl (SL v12 v14 (len v12)) (fd (SL v12 v14 (len v12)) v16) 1 = cl v14 (fd v14 S) 1 := by
 have l := CD (l := v12) (key := v16);have e : (((fd v12 v16).toNat : Nat) : Int) = fd v12 v16 := by omega
 have f := Jn (l := v14) hS;obtain ⟨k, k1, k2⟩ := RX (v12 := v12) (v14 := v14) (i := (fd v12 v16).toNat) (by rw [e]; omega) (n := len v12) (by omega)
 have a : D.strEq (cl (SL v12 v14 (len v12)) k 0) v16 = true := by
  rw [k2];show D.strEq (cl v12 (((fd v12 v16).toNat : Nat) : Int) 0) v16 = true;rw [e];exact FG h0
 have d := Rt (l := SL v12 v14 (len v12)) (key := v16) (fun i hi => Nd hd hi) k1
 rw [a] at d;have d := dT d.symm;refine ⟨by omega, ?_⟩
 rw [← d, k2];show cl v14 (fd v14 (cl v12 (((fd v12 v16).toNat : Nat) : Int) 1)) 1 = _;rw [e, f]
end
end Uh
namespace Uh
open Go Go.AE
section
variable [Av]
variable {v0 v1 v2 v3 v4 v5 v6 v7 v8 v9 v10 v11 v12 v13 v14 v15 v16 v17 S L : D} {p q r : Bool}
theorem OkA.P (h : OkA v0 v1 v2 v3 v4 v5 v6 v7 v8 v9 v10 v11) {i : Nat} (hi : i < len v8) : 0 ≤ fd v1 (cl v8 i 0) ∧ 0 ≤ fd v5 (cl v8 i 1) ∧ B5 v8 i = false := by
 have n := Dt (p := F8 v1 v5 v8) (k := len v8) (i := 0) (j := i) (by omega) (.inr ⟨h.p, by omega⟩)
 unfold F8 at n;simp only [Bool.or_eq_false_iff] at n;exact ⟨Int.not_lt.1 (dF n.1), Int.not_lt.1 (dF n.2.1), n.2.2⟩
theorem OkA.Q (h : OkA v0 v1 v2 v3 v4 v5 v6 v7 v8 v9 v10 v11) {i : Nat} (hi : i < len v9) : 0 ≤ pl v6 v9 i ∧ (!eqC (cl v9 i 1) 0 0 && decide (fd v2 (cl v9 i 1) < 0)) = false ∧ B5 v9 i = false ∧ -1000 ≤ (cl v9 i 2).toInt ∧ (cl v9 i 2).toInt ≤ 1000 := by
 have n := Dt (p := EK v2 v6 v9) (k := len v9) (i := 0) (j := i) (by omega) (.inr ⟨h.q, by omega⟩)
 unfold EK at n;rw [Bool.or_eq_false_iff, Bool.or_eq_false_iff, Bool.or_eq_false_iff, Bool.or_eq_false_iff] at n;exact ⟨Int.not_lt.1 (dF n.1), n.2.1, n.2.2.1, by have := dF n.2.2.2.2; omega, by have := dF n.2.2.2.1; omega⟩
theorem P9 : Bw (Fo 0 0) = 0 := rfl
theorem QR (h : rok v0 v1 v2 v3 = true) : fd v2 (Fo 0 0) < 0 := by
 by_cases c : fd v2 (Fo 0 0) < 0
 ·exact c
 exfalso
 have l := CD (l := v2) (key := Fo 0 0);have e : (((fd v2 (Fo 0 0)).toNat : Nat) : Int) = fd v2 (Fo 0 0) := by omega
 have a := FG (l := v2) (key := Fo 0 0) (by omega)
 have n := Us ((IW h).2 (fd v2 (Fo 0 0)).toNat (by omega)).1
 rw [e] at n
 have s : Bw (cl v2 (fd v2 (Fo 0 0)) 0) = Bw (Fo 0 0) := by
  unfold Bw;rw [Dz.1 a]
 rw [s, P9] at n;omega
theorem Uo (hL : len L = len v6) (hk : ∀ j : Nat, j < len v6 → cl L j 0 = .int (vs v2 v6 v13 v17 j (len v13))) {m : Nat} (hm : m < len v6) : kv (ni L p) m = vs v2 v6 v13 v17 m (len v13) := by
 unfold kv;rw [if_pos (show m < len (ni L p) by rw [Dr]; omega), G2, hk m hm, Ap]
theorem SM (a : OkA v0 v1 v2 v3 v4 v5 v6 v7 v12 v13 v16 v17) (b : OkA v4 v5 v6 v7 v8 v9 v10 v11 v14 v15 S (ni L p)) (hB : fdG (My v13 v15) (len v15) 0 < 0)
  (hS : S = cl v5 (fd v5 (cl v12 (fd v12 v16) 1)) 0) (hL : len L = len v6) (hk : ∀ j : Nat, j < len v6 → cl L j 0 = .int (vs v2 v6 v13 v17 j (len v13))) :
  OkA v0 v1 v2 v3 v8 v9 v10 v11 (ni (SL v12 v14 (len v12)) q) (ni (CL v13 v15 (len v15)) r) v16 v17 ∧
  cl (ni (SL v12 v14 (len v12)) q) (fd (ni (SL v12 v14 (len v12)) q) v16) 1 = cl v14 (fd v14 S) 1 ∧
  ∀ j : Nat, vs v2 v10 (ni (CL v13 v15 (len v15)) r) v17 j (len v15) = vs v6 v10 v15 (ni L p) j (len v15) := by
 have l1 := LM (v12 := v12) (v14 := v14) (i := len v12);have l2 := FB (v13 := v13) (v15 := v15) (i := len v15);have l12 := CD (l := v12) (key := v16);have e12 : (((fd v12 v16).toNat : Nat) : Int) = fd v12 v16 := by have := a.st; omega
 have sS : D.strEq S (cl v12 (fd v12 v16) 1) = true := by
  have := (a.P (i := (fd v12 v16).toNat) (by omega)).2.1
  rw [e12] at this;rw [hS];exact FG this
 obtain ⟨t1, t2⟩ := V6 (v14 := v14) (fun i hi => (a.P hi).2.2) a.st sS b.st
 have hno := QR a.r1;obtain ⟨_, lim⟩ := IW a.r1;obtain ⟨_, _, hv⟩ := Si a.is
 have pv : ∀ i : Nat, i < len v15 → pv v2 (ni (CL v13 v15 (len v15)) r) v17 i = pv v6 v15 (ni L p) i := fun i hi =>
  WZ (fun i hi => (a.Q hi).2.2.2) (fun i hi => (b.Q hi).2.2.2) (fun i hi => (a.Q hi).2.2.1) (fun i hi => (a.Q hi).1) hno (fun m hm => Uo hL hk hm) (fun j hj => ⟨(hv j hj).1, by have := (hv j hj).2; have := (lim j hj).2.2; omega⟩) hi
 have c0 : ∀ i : Nat, i < len v15 → cl (ni (CL v13 v15 (len v15)) r) i 0 = cl v15 i 0 := fun i hi => by
  rw [G2, If hi];rfl
 have pls : ∀ i : Nat, i < len v15 → pl v10 (ni (CL v13 v15 (len v15)) r) i = pl v10 v15 i := fun i hi => by
  unfold pl;rw [c0 i hi]
 refine ⟨⟨a.r1, b.r2, ?_, ?_, ?_, ?_, a.is, t1, ?_⟩, t2, fun j => TI pv pls (Nat.le_refl _)⟩
 ·have := a.l8;rw [Dr];omega
 ·rw [Hu (p := F8 v1 v9 (ni (SL v12 v14 (len v12)) q)) fun k _ hk => ?_]
  ·omega
  ·have hk : k < len (SL v12 v14 (len v12)) := by rw [Dr] at hk; omega
   obtain ⟨i, i1, i2, i3⟩ := Px (j := 0) hk;have A := a.P (i := i) i1;have l14 := CD (l := v14) (key := cl v12 i 1);have B := b.P (i := (fd v14 (cl v12 i 1)).toNat) (by omega)
   rw [show (((fd v14 (cl v12 i 1)).toNat : Nat) : Int) = fd v14 (cl v12 i 1) by omega] at B
   have T := Nd (v14 := v14) (fun i hi => (a.P hi).2.2) hk
   unfold F8;rw [G2, G2, i3, i3];show (decide (fd v1 (cl v12 i 0) < 0) || (decide (fd v9 (cl v14 (fd v14 (cl v12 i 1)) 1) < 0) || B5 (SL v12 v14 (len v12)) k)) = false;rw [T, decide_eq_false (by omega), decide_eq_false (by omega)]
   rfl
 ·have := b.l9;rw [Dr];omega
 ·rw [Hu (p := EK v2 v10 (ni (CL v13 v15 (len v15)) r)) fun k _ hk => ?_]
  ·omega
  ·have hk : k < len v15 := by rw [Dr] at hk; omega
   have B := b.Q hk
   have T : B5 (ni (CL v13 v15 (len v15)) r) k = false := MG fun i hi => by
    rw [c0 i (by omega), c0 k hk]
    exact M1 B.2.2.1 hi
   have W := Dt (p := My v13 v15) (k := len v15) (i := 0) (j := k) (by omega) (.inr ⟨hB, by omega⟩)
   unfold My at W;rw [Bool.or_eq_false_iff] at W;unfold EK;rw [T, c0 k hk, G2, G2, If hk, If hk];show (decide (fd v10 (cl v15 k 0) < 0) || ((!eqC (cO v13 v15 k) 0 0 && decide (fd v2 (cO v13 v15 k) < 0)) || (false || (decide (1000 < (D.int (cB v13 v15 k)).toInt) || decide ((D.int (cB v13 v15 k)).toInt < (-1000)))))) = false;have B1 : ¬ fd v10 (cl v15 k 0) < 0 := Int.not_lt.2 B.1;rw [Ap, W.1, W.2, decide_eq_false B1]
   have O : (!eqC (cO v13 v15 k) 0 0 && decide (fd v2 (cO v13 v15 k) < 0)) = false := by
    unfold cO;by_cases c : fd v13 (cl v15 k 1) < 0
    ·rw [decide_eq_true c];rfl
    ·rw [decide_eq_false c];have l13 := CD (l := v13) (key := cl v15 k 1);have A := (a.Q (i := (fd v13 (cl v15 k 1)).toNat) (by omega)).2.1
     rw [show (((fd v13 (cl v15 k 1)).toNat : Nat) : Int) = fd v13 (cl v15 k 1) by omega] at A
     exact A
   rw [O];rfl
 ·have e : fdG (Kl v2 v10 (ni (CL v13 v15 (len v15)) r) v17) (len (ni (CL v13 v15 (len v15)) r)) 0 = fdG (Kl v6 v10 v15 (ni L p)) (len v15) 0 := by
   rw [Dr, FB];refine FS fun k _ hk => ?_
   unfold Kl;rw [pv k (by omega), pls k (by omega)]
  rw [e];exact b.rg
theorem Sy (hs : Dq v3) (hs7 : Dq v7) (hs11 : Dq v11) (hp' : Du v15) (hn1 : len v1 < 1000) (hn2 : len v2 < 1000) (hn3 : len v3 < 1000) (hn5 : len v5 < 1000) (hn6 : len v6 < 1000) (hn7 : len v7 < 1000) (hn9 : len v9 < 1000) (hn10 : len v10 < 1000) (hn11 : len v11 < 1000) (h12 : len v12 < 1000) (h13 : len v13 < 1000) (h14 : len v14 < 1000) (h15 : len v15 < 1000) :
  ∃ L p C q e, A3 v0 v1 v2 v3 v4 v5 v6 v7 v8 v9 v10 v11 v12 v13 v14 v15 = .row [.int 1, L, .bool p, C, .bool q, .int e] ∧ (e = 0 → L = SL v12 v14 (len v12) ∧ C = CL v13 v15 (len v15) ∧ fdG (My v13 v15) (len v15) 0 < 0) := by
 rw [Va, Nz hs hs7 hn1 hn2 hn3 hn5 hn6 hn7 h12 h13, Nz hs7 hs11 hn5 hn6 hn7 hn9 hn10 hn11 h14 h15];obtain ⟨a, e, q1, q2⟩ := HE v0 v1 v2 v3 v4 v5 v6 v7 v12 v13;obtain ⟨a', e', q1', q2'⟩ := HE v4 v5 v6 v7 v8 v9 v10 v11 v14 v15;rw [q1, q1'];simp only [AZ, AY, Ap, decide_true, cond_true];by_cases c : e = 0;rotate_left
 ·simp only [c, decide_false, cond_false];exact ⟨_, _, _, _, _, rfl, fun h => absurd h c⟩
 subst c;simp only [decide_true, cond_true];by_cases c' : e' = 0;rotate_left
 ·simp only [c', decide_false, cond_false];exact ⟨_, _, _, _, _, rfl, fun h => absurd h c'⟩
 subst c';rw [Uw hp' h13 h15];simp only [AZ, AY, Ap, decide_true, cond_true];obtain ⟨_, _, _, r1, _, r2⟩ := q2 rfl;obtain ⟨_, _, _, r3, _, r4⟩ := q2' rfl;rw [Yk hp' (fun i hi => (ON r2 hi).2) (fun i hi => (ON r4 hi).2) h12 h13 h14 h15]
 unfold WG;by_cases d : fdG (My v13 v15) (len v15) 0 < 0
 ·simp only [decide_eq_true d, cond_true];exact ⟨_, _, _, _, _, rfl, fun _ => ⟨rfl, rfl, d⟩⟩
 ·simp only [decide_eq_false d, cond_false];exact ⟨_, _, _, _, _, rfl, fun h => by cases h⟩
theorem law (hi : MI v3) (hi7 : MI v7) (hi11 : MI v11) (hp : Du v13) (hp' : Du v15) (hx : Lb v17) : TT v0 v1 v2 v3 v4 v5 v6 v7 v8 v9 v10 v11 v12 v13 v14 v15 v16 v17 = .row [.int 1, .bool true] := by
 rw [Vg];have k0 : decide ((sl GX 0).toInt = 1) = true := by rw [Yb]; rfl
 obtain ⟨b1, s1, t1⟩ := I8 v0 v1 v2 v3;obtain ⟨b2, s2, t2⟩ := I8 v4 v5 v6 v7;obtain ⟨b3, s3, t3⟩ := I8 v8 v9 v10 v11;rw [k0, s1, s2, s3];simp only [AZ, AY, Ap, AG, decide_true, cond_true];cases b1 with
 | false => rfl
 | true =>
 cases b2 with
 | false => rfl
 | true =>
 cases b3 with
 | false => rfl
 | true =>
 obtain ⟨_, _, _, o1⟩ := t1 rfl;have hs := o1 hi;obtain ⟨_, _, _, o2⟩ := t2 rfl;have hs7 := o2 hi7;obtain ⟨_, _, _, o3⟩ := t3 rfl;have hs11 := o3 hi11;simp only [cond_true];by_cases c1 : 10 < (len v12 : Int)
 ·rw [ifT c1]
 by_cases c2 : 10 < (len v13 : Int)
 ·rw [ifF c1, ifT c2]
 by_cases c3 : 10 < (len v14 : Int)
 ·rw [ifF c1, ifF c2, ifT c3]
 by_cases c4 : 10 < (len v15 : Int)
 ·rw [ifF c1, ifF c2, ifF c3, ifT c4]
 by_cases c5 : 10 < (len v17 : Int)
 ·rw [ifF c1, ifF c2, ifF c3, ifF c4, ifT c5]
 rw [ifF c1, ifF c2, ifF c3, ifF c4, ifF c5];obtain ⟨A, p, C, q, e, E, he⟩ := Sy (v0 := v0) (v1 := v1) (v2 := v2) (v4 := v4) (v5 := v5) (v6 := v6) (v8 := v8) (v9 := v9) (v10 := v10) (v12 := v12) (v13 := v13) (v14 := v14) hs hs7 hs11 hp' (by omega) (by omega) (by omega) (by omega) (by omega) (by omega) (by omega) (by omega) (by omega) (by omega) (by omega) (by omega) (by omega)
 obtain ⟨S1, L1, p1, e1, E1, h1, h1'⟩ := Kb (v0 := v0) (v1 := v1) (v2 := v2) (v4 := v4) (v5 := v5) (v6 := v6) (v8 := v12) (v9 := v13) (v10 := v16) (v11 := v17) hs hs7 hp hx (by omega) (by omega) (by omega) (by omega) (by omega) (by omega) (by omega) (by omega)
 simp only [E, E1, AZ, AY, Ap, AG, decide_true, cond_true];by_cases d : e = 0;rotate_left
 ·simp only [d, decide_false, cond_false]
 by_cases d1 : e1 = 0;rotate_left
 ·simp only [d, d1, decide_true, decide_false, cond_true, cond_false]
 obtain ⟨rfl, rfl, hB⟩ := he d;have a := h1 d1;obtain ⟨_, y1, y2, y3⟩ := h1' a
 have hx1 : Lb (ni L1 p1) := fun i hi => by
  rw [Dr, y2] at hi;exact ⟨_, y3 i hi⟩
 obtain ⟨S2, L2, p2, e2, E2, h2, h2'⟩ := Kb (v0 := v4) (v1 := v5) (v2 := v6) (v4 := v8) (v5 := v9) (v6 := v10) (v8 := v14) (v9 := v15) (v10 := S1) (v11 := ni L1 p1) hs7 hs11 hp' hx1 (by omega) (by omega) (by omega) (by omega) (by omega) (by omega) (by omega) (by omega)
 have l1 := LM (v12 := v12) (v14 := v14) (i := len v12);have l2 := FB (v13 := v13) (v15 := v15) (i := len v15)
 have hpC : Du (ni (CL v13 v15 (len v15)) q) := fun i hi => by
  rw [Dr, l2] at hi;refine ⟨cB v13 v15 i, ?_⟩;rw [G2, If hi];rfl
 obtain ⟨S3, L3, p3, e3, E3, h3, h3'⟩ := Kb (v0 := v0) (v1 := v1) (v2 := v2) (v4 := v8) (v5 := v9) (v6 := v10) (v8 := ni (SL v12 v14 (len v12)) p) (v9 := ni (CL v13 v15 (len v15)) q) (v10 := v16) (v11 := v17) hs hs11 hpC hx (by omega) (by omega) (by omega) (by omega) (by omega) (by omega) (by rw [Dr]; omega) (by rw [Dr]; omega)
 simp only [d, d1, E2, E3, AZ, AY, Ap, AG, decide_true, cond_true];by_cases d2 : e2 = 0;rotate_left
 ·simp only [d2, decide_false, cond_false]
 have b := h2 d2;obtain ⟨_, z1, z2, z3⟩ := h2' b;obtain ⟨o, w1, w2⟩ := SM (q := p) (r := q) a b hB y1 y2 y3;obtain ⟨d3, x1, x2, x3⟩ := h3' o;simp only [d2, d3, decide_true, cond_true]
 rw [UH (by rw [x1, z1, w1]; exact M0) (by rw [x2, z2]) (by omega) fun j hj => by
  rw [x3 j (by omega), z3 j (by omega), Ap, Ap, Dr, l2]
  exact w2 j]
 simp only [AZ, AY, Ap, AG, decide_true, cond_true]
end
end Uh

