/- What is proved: what the plain functions over data say, whose trees the text before writes out: the law UpgradeComposes answers true. Conditions: those that each theorem states. -/
import Derived.Test.YtmgppdghdeokbaaGreatUpgradeComposesTree
set_option linter.unusedVariables false
set_option linter.unusedSectionVars false
set_option linter.unusedSimpArgs false
namespace Go.AE
section
variable [Au]
def atV (Ts : List (List (Tr Plf))) (xs : List D) : Val := Hb (Am Ts) xs
def fin (Ts : List (List (Tr Plf))) (k : Nat) (V : Val) : Plf → D
 | .stuck => .row []
 | .done s cs => .row (.int (s + 1 : Nat) :: cs.map (Ab V))
 | .next j θ => Am Ts k (.row (.int j :: θ.map (Ab V)))
def Ot (Ts : List (List (Tr Plf))) (k : Nat) (V : Val) (t : Tr Plf) : D := fin Ts k V (t.get V)
theorem ZQ {Ts : List (List (Tr Plf))} (h : C4 0 Ts = true) {k p : Nat} {T : List (Tr Plf)} {t : Tr Plf} {xs : List D} (hk : Ts[k]? = some T) (hp : T[p]? = some t) :
  Am Ts k (.row (.int (p : Nat) :: xs)) = Ot Ts k (atV Ts xs) t := by
 have hd : Bm T (Am Ts) (.row (.int (p : Nat) :: xs)) = BO (atV Ts xs) (t.get (atV Ts xs)) := by
  show (match T[p]? with | some t => BO _ (t.get _) | none => none) = _
  rw [hp];rfl
 unfold Ot fin;split
 ·rename_i e;rw [e] at hd;rw [Ay h hk];rcases Dp (Bm T (Am Ts)) (.row (.int (p : Nat) :: xs)) with q | ⟨n, q⟩
  ·exact q
  ·cases n with
   | zero => cases q
   | succ n =>
    simp only [Ec, hd] at q;cases q
 ·rename_i e;rw [e] at hd;rw [Ay h hk];exact MC hd
 ·rename_i e;rw [e] at hd;rw [Ay h hk, Ml hd, ← Ay h hk]
theorem N1 {Ts : List (List (Tr Plf))} {k : Nat} {V : Val} {e : SB} {a b : Tr Plf} : Ot Ts k V (.split e a b) = if Ad V e = true then Ot Ts k V a else Ot Ts k V b := by
 unfold Ot;rw [show (Tr.split e a b).get V = match Ad V e with | true => a.get V | false => b.get V from rfl]
 cases Ad V e <;> rfl
end
theorem C2 {a : Int} (h : -9223372036854775808 ≤ a) (h' : a < 9223372036854775808) : IntKind.wrap .i64 a = a := by
 show (if (true && decide (a % (2 ^ 64 : Int) ≥ 2 ^ 63)) = true then a % (2 ^ 64 : Int) - 2 ^ 64 else a % (2 ^ 64 : Int)) = a
 split
 ·rename_i q;simp only [Bool.true_and, decide_eq_true_eq] at q;omega
 ·rename_i q;simp only [Bool.true_and, decide_eq_true_eq] at q;omega
def len (d : D) : Nat := d.rows.length
def Bq (d : D) : Nat := d.toStr.data.toList.length
def cl (a : D) (i : Int) (j : Nat) : D := (a.rows.getD i.toNat default).cells.getD j default
def sl (a : D) (j : Nat) : D := a.cells.getD j default
def BL : D := .slc true []
def Lq : D := .slc false []
def ad (a r : D) : D := .slc false (a.rows ++ [r])
def upd (a : D) (i : Int) (j : Nat) (x : D) : D := .slc a.isNil (a.rows.modify i.toNat fun r => .row (r.cells.set j x))
def sb (a : D) (lo hi : Int) : D := .slc a.isNil ((a.rows.drop lo.toNat).take (hi.toNat - lo.toNat))
def M5 (l b : Nat) : D := .str ⟨(CC l b).toArray⟩
def Tg (a b : D) : D := .str (a.toStr ++ b.toStr)
def Mj (a : D) : D := .slc false (a.toStr.data.toList.map fun b => .row [.int b.toNat])
def mIx (ks : List Kd) (a k : D) : Int := Ej ks k.cells a.rows 0
def sAt (a : D) (i : Int) : Int := ((a.toStr.data.toList[i.toNat]?).getD 0).toNat
def eqC (a : D) (l b : Nat) : Bool := strEq a.toStr.data.toList.length (Av a.toStr.data.toList) l b
theorem ifT {α : Type} {p : Prop} [Decidable p] {a b : α} (h : p) : cond (decide p) a b = a := by rw [decide_eq_true h]; rfl
theorem ifF {α : Type} {p : Prop} [Decidable p] {a b : α} (h : ¬ p) : cond (decide p) a b = b := by rw [decide_eq_false h]; rfl
section
variable [Au]
def Dg (Ts : List (List (Tr Plf))) (k : Nat) (V : Val) : Tr Plf → D
 | .leaf l => fin Ts k V l
 | .split e a b => cond (Ad V e) (Dg Ts k V a) (Dg Ts k V b)
theorem HP {Ts : List (List (Tr Plf))} {k : Nat} {V : Val} : ∀ t : Tr Plf, Ot Ts k V t = Dg Ts k V t
 | .leaf l => rfl
 | .split e a b => by
  rw [N1, HP a, HP b, Dg];cases Ad V e <;> rfl
theorem UG {Ts : List (List (Tr Plf))} (h : C4 0 Ts = true) {k p : Nat} {T : List (Tr Plf)} {t : Tr Plf} {xs : List D} (hk : Ts[k]? = some T) (hp : T[p]? = some t) :
  Am Ts k (.row (.int (p : Nat) :: xs)) = Dg Ts k (atV Ts xs) t := (ZQ h hk hp).trans (HP t)
theorem cg {Ts : List (List (Tr Plf))} {k : Nat} {V : Val} {e : SB} {a b : Tr Plf} {c : Bool} {x y : D} (h : Ad V e = c) (ha : Dg Ts k V a = x) (hb : Dg Ts k V b = y) : Dg Ts k V (.split e a b) = cond c x y := by
 rw [Dg, h, ha, hb]
end
theorem lE {V : Val} {a b : SE} {x y : Int} (h : (Ab V a).toInt = x) (h' : (Ab V b).toInt = y) : Ad V (.lss a b) = decide (x < y) := by rw [← h, ← h']; rfl
theorem qE {V : Val} {a b : SE} {x y : Int} (h : (Ab V a).toInt = x) (h' : (Ab V b).toInt = y) : Ad V (.eql a b) = decide (x = y) := by rw [← h, ← h']; rfl
section
variable [Au]
theorem cL {Ts : List (List (Tr Plf))} {k : Nat} {V : Val} {e f : SE} {a b : Tr Plf} {m n : Int} {x y : D} (ha : Dg Ts k V a = x) (hb : Dg Ts k V b = y) (h : (Ab V e).toInt = m := by rfl) (h' : (Ab V f).toInt = n := by rfl) : Dg Ts k V (.split (.lss e f) a b) = cond (decide (m < n)) x y := cg (lE h h') ha hb
theorem cQ {Ts : List (List (Tr Plf))} {k : Nat} {V : Val} {e f : SE} {a b : Tr Plf} {m n : Int} {x y : D} (ha : Dg Ts k V a = x) (hb : Dg Ts k V b = y) (h : (Ab V e).toInt = m := by rfl) (h' : (Ab V f).toInt = n := by rfl) : Dg Ts k V (.split (.eql e f) a b) = cond (decide (m = n)) x y := cg (qE h h') ha hb
end
theorem aE {V : Val} {a b : SE} {x y : Bool} (h : Ad V a = x) (h' : Ad V b = y) : Ad V (.and a b) = (x && y) := by rw [← h, ← h']; rfl
theorem Rt {a r : D} : len (ad a r) = len a + 1 := by
 show (a.rows ++ [r]).length = _;simp [len]
theorem Vn {a : D} {lo hi : Int} (h : lo.toNat ≤ hi.toNat) (h' : hi.toNat ≤ len a) : len (sb a lo hi) = hi.toNat - lo.toNat := by
 show ((a.rows.drop _).take _).length = _;have : hi.toNat ≤ a.rows.length := h';simp;omega
theorem AY {x : D} {l : List D} : sl (.row (x :: l)) 0 = x := rfl
theorem AZ {x : D} {l : List D} {n : Nat} : sl (.row (x :: l)) (n + 1) = sl (.row l) n := rfl
theorem Aw {n : Int} : (D.int n).toInt = n := rfl
theorem AA {b : Bool} : (D.bool b).toBool = b := rfl
theorem VZ {a r : D} {k : Int} {j : Nat} (hk : 0 ≤ k) : cl (ad a r) k j = if k = len a then sl r j else cl a k j := by
 have hl : len a = a.rows.length := rfl;show ((a.rows ++ [r])[k.toNat]?.getD default).cells.getD j default = _;by_cases q : k.toNat < a.rows.length
 ·rw [List.getElem?_append_left q, if_neg (by omega)]
  rfl
 ·by_cases q' : k = len a
  ·subst q';rw [if_pos rfl];have : ((len a : Int)).toNat = a.rows.length := by omega
   rw [this];simp [sl]
  ·rw [if_neg q', List.getElem?_eq_none (by simp; omega)]
   show _ = (a.rows[k.toNat]?.getD default).cells.getD j default;rw [List.getElem?_eq_none (by omega)]
theorem RF {P : Program} {ts : List TypeId} {xs : List D} {ks : List Kd} (h : GH P ts xs) (hk : AC (Env.of P) ts = some ks) : ks.length = xs.length ∧ IP (Env.of P).kinds 9 ks xs := by
 obtain ⟨ks', cs, M, e, hd, _, hc⟩ := h;rw [hk] at e;cases e;exact ⟨hd.len.2, hc⟩
theorem Gm.cell {K : TypeId → Option (List Kd)} {m j : Nat} {e : TypeId} {ks : List Kd} {kd : Kd} {d : D} {i : Int} (h : Gm K (m + 1) (.slice e) d) (hk : K e = some ks) (h0 : 0 ≤ i) (hi : i < len d) (hj : ks[j]? = some kd) : Gm K m kd (cl d i j) := by
 obtain ⟨nl, rows, rfl, _, q⟩ := h;have hi' : i.toNat < rows.length := by have : len (.slc nl rows) = rows.length := rfl; omega
 obtain ⟨cs, e1, _, e3⟩ := q ks hk _ (List.getElem_mem hi');show Gm K m kd ((rows[i.toNat]?.getD default).cells.getD j default);rw [List.getElem?_eq_getElem hi', Option.getD_some, e1];exact e3 j kd hj
theorem Gm.toI {K : TypeId → Option (List Kd)} {m : Nat} {k : IntKind} {d : D} (h : Gm K m (.int k) d) : ∃ n, d = .int n := by cases m <;> exact h
theorem Gm.toB {K : TypeId → Option (List Kd)} {m : Nat} {d : D} (h : Gm K m .bool d) : ∃ b, d = .bool b := by cases m <;> exact h
def fdG (p : Nat → Bool) : Nat → Nat → Int
 | 0, _ => -1
 | k + 1, i => cond (p i) (i : Int) (fdG p k (i + 1))
theorem Js {p : Nat → Bool} : ∀ {k i : Nat}, fdG p k i < i + k
 | 0, i => by show (-1 : Int) < _; omega
 | k + 1, i => by
  rw [fdG];have := Js (p := p) (k := k) (i := i + 1);cases p i
  ·show fdG p k (i + 1) < _; omega
  ·show (i : Int) < _; omega
theorem RA {p : Nat → Bool} : ∀ {k i : Nat}, fdG p k i = -1 ∨ (i : Int) ≤ fdG p k i
 | 0, i => .inl rfl
 | k + 1, i => by
  rw [fdG];cases p i
  ·show fdG p k (i + 1) = _ ∨ _ ≤ fdG p k (i + 1);rcases RA (p := p) (k := k) (i := i + 1) with h | h
   ·exact .inl h
   ·exact .inr (by omega)
  ·exact .inr (Int.le_refl _)
theorem Rg {p : Nat → Bool} : ∀ {k i : Nat}, 0 ≤ fdG p k i → p (fdG p k i).toNat = true
 | 0, i => fun h => by simp [fdG] at h
 | k + 1, i => by
  rw [fdG];cases q : p i
  ·exact Rg (k := k)
  ·intro _;show p i = true;exact q
theorem L4 {p : Nat → Bool} : ∀ {k i j : Nat}, i ≤ j → j < i + k → p j = true → 0 ≤ fdG p k i ∧ fdG p k i ≤ j
 | 0, i, j => fun h h' => by omega
 | k + 1, i, j => by
  intro h h' hp;rw [fdG];cases q : p i
  ·have : i ≠ j := fun c => by rw [c, hp] at q; cases q
   exact L4 (k := k) (by omega) (by omega) hp
  ·show 0 ≤ (i : Int) ∧ (i : Int) ≤ j; omega
theorem OB {p : Nat → Bool} {k i j : Nat} (h : i ≤ j) (h' : (j : Int) < fdG p k i ∨ (fdG p k i < 0 ∧ j < i + k)) : p j = false := by
 cases q : p j
 ·rfl
 ·have := Js (p := p) (k := k) (i := i);have := L4 (p := p) (k := k) h (by omega) q
  omega
theorem Lb {p q : Nat → Bool} : ∀ {k i : Nat}, (∀ j, i ≤ j → j < i + k → p j = q j) → fdG p k i = fdG q k i
 | 0, i, h => rfl
 | k + 1, i, h => by
  rw [fdG, fdG, h i (Nat.le_refl _) (by omega), Lb fun j a b => h j (by omega) (by omega)]
theorem TX {F : Nat → D} {bad : Nat → Bool} {B : Nat → D} {n : Nat} : ∀ {k i : Nat}, i + k = n → (∀ j, i ≤ j → j < n → F j = cond (bad j) (B j) (F (j + 1))) → F i = cond (decide (fdG bad k i < 0)) (F n) (B (fdG bad k i).toNat)
 | 0, i => fun h _ => by
  have : i = n := by omega
  subst this;rfl
 | k + 1, i => fun h hs => by
  rw [hs i (Nat.le_refl _) (by omega), fdG]
  cases bad i
  ·exact TX (by omega) fun j a b => hs j (by omega) b
  ·show B i = cond (decide ((i : Int) < 0)) _ (B (i : Int).toNat);rw [ifF (by omega)]
   rfl
theorem Gl {F : Nat → D} {bad : Nat → Bool} {B : Nat → D} {n : Nat} (hs : ∀ j, j < n → F j = cond (bad j) (B j) (F (j + 1))) : F 0 = cond (decide (fdG bad n 0 < 0)) (F n) (B (fdG bad n 0).toNat) := TX (by omega) fun j _ b => hs j b
theorem find {F : Nat → D} {bad : Nat → Bool} {n : Nat} (hs : ∀ j, j < n → F j = cond (bad j) (.row [.int 1, .int (j : Nat)]) (F (j + 1))) (hr : F n = .row [.int 1, .int (-1)]) : F 0 = .row [.int 1, .int (fdG bad n 0)] := by
 rw [Gl hs, hr];have h := RA (p := bad) (k := n) (i := 0);by_cases q : fdG bad n 0 < 0
 ·rw [ifT q];rcases h with h | h
  ·rw [h]
  ·omega
 ·rw [ifF q];have : ((fdG bad n 0).toNat : Int) = fdG bad n 0 := by omega
  rw [this]
theorem By {i : Nat} (h : i < 4611686018427387904) : IntKind.wrap .i64 ((i : Int) + 1) = ((i + 1 : Nat) : Int) := by rw [C2 (by omega) (by omega)]; omega
theorem IZ {α : Type} {c : Bool} {a b x : α} (h1 : c = true → a = x) (h2 : c = false → b = x) : cond c a b = x := by
 cases c
 ·exact h2 rfl
 ·exact h1 rfl
theorem dT {p : Prop} [Decidable p] (h : decide p = true) : p := of_decide_eq_true h
theorem dF {p : Prop} [Decidable p] (h : decide p = false) : ¬ p := of_decide_eq_false h
theorem OZ {x y : Int} : decide (x = y) = decide (y = x) := decide_eq_decide.2 eq_comm
theorem C0 {a : D} : D.strEq a a = true := by
 show (Nat.beq _ _ && Nat.beq _ _) = true;simp
theorem BW {a b : D} : D.strEq a b = D.strEq b a := K3 (U := A0) _ _ _ _
theorem JW {a : D} : eqC a 0 0 = decide (Bq a = 0) := by
 show (Nat.beq _ 0 && Nat.beq _ 0) = _;show _ = decide (a.toStr.data.toList.length = 0);cases a.toStr.data.toList <;> simp [Av]
theorem Sr {a b : D} : Bq (Tg a b) = Bq a + Bq b := by
 show (a.toStr ++ b.toStr).data.toList.length = _;simp [Bq]
theorem Oi {a b : D} : eqC (Tg a b) 0 0 = (eqC a 0 0 && eqC b 0 0) := by
 rw [JW, JW, JW, Sr, Bool.eq_iff_iff];simp
theorem Gk {a b : D} : D.strEq a b = true ↔ a.toStr = b.toStr := by
 show AE.strEq _ _ _ _ = true ↔ _;rw [BV (U := A0)];constructor
 ·intro h;rw [ByteArray.toList_eq, ByteArray.toList_eq] at h;have : a.toStr.data.toList = b.toStr.data.toList := by simpa only [beq_iff_eq] using h
  exact ByteArray.ext (Array.toList_inj.1 this)
 ·intro h;rw [h];simp
theorem LG {a b c : D} (h : D.strEq a b = true) (h' : D.strEq b c = true) : D.strEq a c = true := Gk.2 ((Gk.1 h).trans (Gk.1 h'))
theorem VU {a : D} {i : Nat} {j c : Nat} (hi : i ≤ len a) (hj : j < i) : cl (sb a 0 i) j c = cl a j c := by
 have hi' : i ≤ a.rows.length := hi;show (((a.rows.drop 0).take (i - 0)).getD j default).cells.getD c default = (a.rows.getD j default).cells.getD c default;rw [List.getD_eq_getElem?_getD, List.getD_eq_getElem?_getD, List.getElem?_take];simp [hj]
theorem Tb {a k : D} (hw : ∀ r ∈ a.rows, ∃ x l, r = .row (x :: l)) : mIx [.str] a (.row [k]) = fdG (fun i => D.strEq (cl a i 0) k) (len a) 0 := by
 have gen : ∀ (rs l : List D) (nl : Bool), (∀ r ∈ rs, ∃ x l, r = .row (x :: l)) → Ej [.str] [k] rs l.length = fdG (fun i => D.strEq (cl (.slc nl (l ++ rs)) i 0) k) rs.length l.length := by
  intro rs
  induction rs with
  | nil => intro l nl _; rfl
  | cons r rs ih =>
   intro l nl hr;rw [Ej, List.length_cons, fdG]
   have e : cl (.slc nl (l ++ r :: rs)) (l.length : Nat) 0 = r.cells.getD 0 default := by
    show ((l ++ r :: rs).getD l.length default).cells.getD 0 default = _;simp
   have i2 := ih (l ++ [r]) nl fun x hx => hr x (List.mem_cons_of_mem _ hx)
   rw [List.length_append, List.append_assoc] at i2;have i2 : Ej [.str] [k] rs (l.length + 1) = fdG (fun i => D.strEq (cl (.slc nl (l ++ r :: rs)) i 0) k) rs.length (l.length + 1) := i2
   rw [e, i2]
   have h : Dk [.str] r.cells [k] = D.strEq (r.cells.getD 0 default) k := by
    obtain ⟨x, t, e⟩ := hr r (List.mem_cons_self ..);subst e;show (D.strEq x k && true) = D.strEq x k;rw [Bool.and_true]
   rw [h];cases D.strEq (r.cells.getD 0 default) k <;> rfl
 have h := gen a.rows [] a.isNil hw;exact h
theorem Nx {G : Bool → Nat → D} {p : Nat → Bool} {n : Nat} : ∀ {k i : Nat} {b : Bool}, i + k = n → (∀ (b : Bool) (j : Nat), j < n → G b j = cond b (G true (j + 1)) (G (p j) (j + 1))) → G b i = G (b || !decide (fdG p k i < 0)) n
 | 0, i, b => fun h _ => by
  have : i = n := by omega
  subst this;show G b i = G (b || !decide ((-1 : Int) < 0)) i;cases b <;> rfl
 | k + 1, i, b => fun h hs => by
  rw [hs b i (by omega), fdG]
  cases b
  ·rw [cond_false, Nx (k := k) (i := i + 1) (by omega) hs]
   cases q : p i
   ·rfl
   ·show _ = G (false || !decide ((i : Int) < 0)) n;rw [decide_eq_false (show ¬ (i : Int) < 0 by omega)]
    rfl
  ·rw [cond_true, Nx (k := k) (i := i + 1) (by omega) hs]
   rfl
theorem TZ {G : Bool → Nat → D} {p : Nat → Bool} {n : Nat} {b : Bool} (hs : ∀ (b : Bool) (j : Nat), j < n → G b j = cond b (G true (j + 1)) (G (p j) (j + 1))) : G b 0 = G (b || !decide (fdG p n 0 < 0)) n := Nx (by omega) hs
def Ct (f : Nat → D) (i : Nat) : D := .slc false ((List.range i).map fun j => .row [f j, .bool true])
theorem JV {f : Nat → D} {i : Nat} : ad (Ct f i) (.row [f i, .bool true]) = Ct f (i + 1) := by
 unfold Ct ad;rw [List.range_succ, List.map_append];rfl
theorem Mo {f : Nat → D} {i : Nat} {k : D} : mIx [.str] (Ct f i) (.row [k]) = fdG (fun j => D.strEq (f j) k) i 0 := by
 rw [Tb (by
  intro r hr;obtain ⟨j, _, e⟩ := List.mem_map.1 hr;exact ⟨_, _, e.symm⟩)]
 have hl : len (Ct f i) = i := by unfold len Ct; simp [D.rows]
 rw [hl];refine Lb fun j _ hj => ?_
 have : cl (Ct f i) j 0 = f j := by
  show ((((List.range i).map fun j => D.row [f j, .bool true])[j]?).getD default).cells.getD 0 default = f j
  rw [List.getElem?_map, List.getElem?_range (by omega)]
  rfl
 rw [this]
theorem Ji {f : Nat → D} {i : Nat} {j : Int} (h0 : 0 ≤ j) (h : j < i) : cl (Ct f i) j 1 = .bool true := by
 show ((((List.range i).map fun j => D.row [f j, .bool true])[j.toNat]?).getD default).cells.getD 1 default = _
 rw [List.getElem?_map, List.getElem?_range (by omega)]
 rfl
theorem ShK.cell {K : TypeId → Option (List Kd)} {o : Option Nat} {m j : Nat} {e : TypeId} {ks : List Kd} {kd : Kd} {d : D} {i : Nat} (h : ShK K o (m + 1) (.slice e) d) (hk : K e = some ks) (hi : i < len d) (hj : ks[j]? = some kd) : ShK K o m kd (cl d i j) := h.2 ks hk i hi j kd hj
theorem ShK.rows {K : TypeId → Option (List Kd)} {b m : Nat} {e : TypeId} {d : D} (h : ShK K (some b) (m + 1) (.slice e) d) : len d ≤ b := h.1 b rfl
theorem ShK.text {K : TypeId → Option (List Kd)} {b m : Nat} {d : D} (h : ShK K (some b) m .str d) : Bq d ≤ b := by
 have : leB (some b) (Bq d) := by cases m <;> exact h
 exact this b rfl
end Go.AE
set_option maxRecDepth 100000
namespace Uc
open Go Go.AE
theorem lt : C4 0 ts = true := by decide
theorem gw [Au] {k p : Nat} {T : List (Tr Plf)} {t : Tr Plf} {xs : List D} {x : D} (hk : ts[k]? = some T) (hp : T[p]? = some t) (h : Dg ts k (atV ts xs) t = x) : Am ts k (.row (.int (p : Nat) :: xs)) = x := (UG lt hk hp).trans h
section
variable [Au]
def MA (v0 v1 v2 v3 : D) : D := Am ts 0 (.row [.int (0 : Nat), v0, v1, v2, v3])
def PK (v0 v1 v2 v3 v4 v5 : D) : D := Am ts 0 (.row [.int (1 : Nat), v0, v1, v2, v3, v4, v5])
def Te (v0 v1 v2 v3 v4 v5 : D) : D := Am ts 0 (.row [.int (2 : Nat), v0, v1, v2, v3, v4, v5])
def S9 (v0 v1 v2 v3 v4 v5 : D) : D := Am ts 0 (.row [.int (3 : Nat), v0, v1, v2, v3, v4, v5])
def Kh : D := Am ts 1 (.row [.int (0 : Nat)])
def EK (v0 : D) : D := Am ts 2 (.row [.int (0 : Nat), v0])
def Np (v0 v1 v2 : D) : D := Am ts 2 (.row [.int (1 : Nat), v0, v1, v2])
def RX (v0 v1 : D) : D := Am ts 3 (.row [.int (0 : Nat), v0, v1])
def TH (v0 v1 v2 : D) : D := Am ts 3 (.row [.int (1 : Nat), v0, v1, v2])
def Qn (v0 v1 v2 v3 v4 v5 v6 : D) : D := Am ts 4 (.row [.int (0 : Nat), v0, v1, v2, v3, v4, v5, v6])
def P3 (v0 v1 v2 v3 v4 v5 : D) : D := Am ts 4 (.row [.int (1 : Nat), v0, v1, v2, v3, v4, v5])
def Hv (v0 v1 : D) : D := Am ts 5 (.row [.int (0 : Nat), v0, v1])
def SA (v0 v1 v2 : D) : D := Am ts 5 (.row [.int (1 : Nat), v0, v1, v2])
def Qb (v0 v1 v2 v3 v4 v5 v6 : D) : D := Am ts 6 (.row [.int (0 : Nat), v0, v1, v2, v3, v4, v5, v6])
def Qu (v0 v1 v2 v3 v4 v5 : D) : D := Am ts 6 (.row [.int (1 : Nat), v0, v1, v2, v3, v4, v5])
def Vl (v0 v1 v2 v3 v4 v5 v6 v7 v8 v9 : D) : D := Am ts 7 (.row [.int (0 : Nat), v0, v1, v2, v3, v4, v5, v6, v7, v8, v9])
def Qs (v0 v1 v2 v3 v4 v5 v6 v7 v8 v9 v10 : D) : D := Am ts 7 (.row [.int (1 : Nat), v0, v1, v2, v3, v4, v5, v6, v7, v8, v9, v10])
def Qw (v0 v1 v2 v3 v4 v5 v6 : D) : D := Am ts 8 (.row [.int (0 : Nat), v0, v1, v2, v3, v4, v5, v6])
def Gw (v0 v1 v2 v3 v4 v5 : D) : D := Am ts 8 (.row [.int (1 : Nat), v0, v1, v2, v3, v4, v5])
def PO (v0 v1 : D) : D := Am ts 9 (.row [.int (0 : Nat), v0, v1])
def Su (v0 v1 v2 : D) : D := Am ts 9 (.row [.int (1 : Nat), v0, v1, v2])
def Ky (v0 v1 : D) : D := Am ts 10 (.row [.int (0 : Nat), v0, v1])
def Pr (v0 v1 v2 : D) : D := Am ts 10 (.row [.int (1 : Nat), v0, v1, v2])
def In (v0 v1 v2 v3 v4 v5 v6 v7 v8 v9 : D) : D := Am ts 11 (.row [.int (0 : Nat), v0, v1, v2, v3, v4, v5, v6, v7, v8, v9])
def Fe (v0 v1 v2 v3 v4 v5 v6 v7 v8 v9 v10 v11 v12 : D) : D := Am ts 11 (.row [.int (1 : Nat), v0, v1, v2, v3, v4, v5, v6, v7, v8, v9, v10, v11, v12])
def DA (v0 v1 v2 v3 v4 v5 v6 v7 v8 v9 v10 v11 v12 v13 v14 v15 : D) : D := Am ts 11 (.row [.int (2 : Nat), v0, v1, v2, v3, v4, v5, v6, v7, v8, v9, v10, v11, v12, v13, v14, v15])
def HX (v0 v1 v2 v3 : D) : D := Am ts 12 (.row [.int (0 : Nat), v0, v1, v2, v3])
def Pc (v0 v1 v2 v3 v4 : D) : D := Am ts 12 (.row [.int (1 : Nat), v0, v1, v2, v3, v4])
def MY (v0 v1 : D) : D := Am ts 13 (.row [.int (0 : Nat), v0, v1])
def H7 (v0 v1 v2 v3 v4 : D) : D := Am ts 13 (.row [.int (1 : Nat), v0, v1, v2, v3, v4])
def K8 (v0 v1 v2 : D) : D := Am ts 14 (.row [.int (0 : Nat), v0, v1, v2])
def O5 (v0 v1 v2 v3 : D) : D := Am ts 14 (.row [.int (1 : Nat), v0, v1, v2, v3])
def O6 (v0 v1 : D) : D := Am ts 15 (.row [.int (0 : Nat), v0, v1])
def Ii (v0 v1 v2 : D) : D := Am ts 15 (.row [.int (1 : Nat), v0, v1, v2])
def EQ (v0 v1 v2 v3 v4 v5 v6 v7 v8 v9 v10 v11 v12 v13 v14 v15 : D) : D := Am ts 16 (.row [.int (0 : Nat), v0, v1, v2, v3, v4, v5, v6, v7, v8, v9, v10, v11, v12, v13, v14, v15])
def FW (v0 v1 v2 v3 v4 v5 v6 v7 : D) : D := Am ts 16 (.row [.int (1 : Nat), v0, v1, v2, v3, v4, v5, v6, v7])
def CH (v0 : D) : D := Am ts 17 (.row [.int (0 : Nat), v0])
def H4 (v0 v1 : D) : D := Am ts 17 (.row [.int (1 : Nat), v0, v1])
def GV (v0 v1 v2 v3 v4 : D) : D := Am ts 18 (.row [.int (0 : Nat), v0, v1, v2, v3, v4])
def O1 (v0 v1 v2 v3 v4 v5 : D) : D := Am ts 18 (.row [.int (1 : Nat), v0, v1, v2, v3, v4, v5])
def FT (v0 v1 v2 v3 v4 : D) : D := Am ts 19 (.row [.int (0 : Nat), v0, v1, v2, v3, v4])
def OH (v0 v1 v2 v3 v4 v5 : D) : D := Am ts 19 (.row [.int (1 : Nat), v0, v1, v2, v3, v4, v5])
def Pz (v0 v1 v2 v3 v4 : D) : D := Am ts 20 (.row [.int (0 : Nat), v0, v1, v2, v3, v4])
def EO (v0 v1 v2 v3 v4 v5 v6 v7 v8 v9 v10 v11 v12 v13 v14 v15 : D) : D := Am ts 20 (.row [.int (1 : Nat), v0, v1, v2, v3, v4, v5, v6, v7, v8, v9, v10, v11, v12, v13, v14, v15])
def KA (v0 v1 v2 v3 : D) : D := Am ts 21 (.row [.int (0 : Nat), v0, v1, v2, v3])
def Io (v0 v1 v2 v3 v4 : D) : D := Am ts 21 (.row [.int (1 : Nat), v0, v1, v2, v3, v4])
def Ij (v0 v1 v2 v3 v4 : D) : D := Am ts 21 (.row [.int (2 : Nat), v0, v1, v2, v3, v4])
def HY (v0 v1 v2 v3 v4 : D) : D := Am ts 21 (.row [.int (3 : Nat), v0, v1, v2, v3, v4])
def KC (v0 v1 v2 v3 v4 : D) : D := Am ts 22 (.row [.int (0 : Nat), v0, v1, v2, v3, v4])
def Pb (v0 v1 v2 v3 v4 v5 : D) : D := Am ts 22 (.row [.int (1 : Nat), v0, v1, v2, v3, v4, v5])
def Ko (v0 v1 v2 v3 v4 : D) : D := Am ts 23 (.row [.int (0 : Nat), v0, v1, v2, v3, v4])
def O4 (v0 v1 v2 v3 v4 v5 : D) : D := Am ts 23 (.row [.int (1 : Nat), v0, v1, v2, v3, v4, v5])
def H5 (v0 v1 v2 v3 v4 v5 v6 v7 v8 v9 : D) : D := Am ts 24 (.row [.int (0 : Nat), v0, v1, v2, v3, v4, v5, v6, v7, v8, v9])
def GT (v0 v1 v2 v3 v4 v5 v6 v7 v8 v9 v10 : D) : D := Am ts 24 (.row [.int (1 : Nat), v0, v1, v2, v3, v4, v5, v6, v7, v8, v9, v10])
def EU (v0 v1 v2 v3 v4 v5 v6 v7 v8 v9 v10 v11 v12 : D) : D := Am ts 24 (.row [.int (2 : Nat), v0, v1, v2, v3, v4, v5, v6, v7, v8, v9, v10, v11, v12])
def FY (v0 v1 v2 v3 v4 v5 v6 v7 v8 v9 v10 : D) : D := Am ts 24 (.row [.int (3 : Nat), v0, v1, v2, v3, v4, v5, v6, v7, v8, v9, v10])
def De (v0 v1 v2 v3 v4 v5 v6 v7 v8 v9 v10 v11 v12 v13 v14 v15 : D) : D := Am ts 24 (.row [.int (4 : Nat), v0, v1, v2, v3, v4, v5, v6, v7, v8, v9, v10, v11, v12, v13, v14, v15])
def EN (v0 v1 v2 v3 v4 v5 v6 v7 v8 v9 v10 v11 v12 v13 v14 v15 : D) : D := Am ts 25 (.row [.int (0 : Nat), v0, v1, v2, v3, v4, v5, v6, v7, v8, v9, v10, v11, v12, v13, v14, v15])
def JI (v0 v1 v2 v3 v4 v5 v6 : D) : D := Am ts 25 (.row [.int (1 : Nat), v0, v1, v2, v3, v4, v5, v6])
def GQ (v0 v1 v2 v3 v4 v5 v6 v7 : D) : D := Am ts 25 (.row [.int (2 : Nat), v0, v1, v2, v3, v4, v5, v6, v7])
def Hd (v0 v1 v2 v3 v4 v5 v6 v7 v8 : D) : D := Am ts 25 (.row [.int (3 : Nat), v0, v1, v2, v3, v4, v5, v6, v7, v8])
def Ih (v0 v1 v2 v3 v4 v5 v6 v7 v8 v9 v10 v11 v12 : D) : D := Am ts 25 (.row [.int (4 : Nat), v0, v1, v2, v3, v4, v5, v6, v7, v8, v9, v10, v11, v12])
def OS (v0 v1 v2 v3 v4 v5 v6 v7 : D) : D := Am ts 26 (.row [.int (0 : Nat), v0, v1, v2, v3, v4, v5, v6, v7])
def PA (v0 v1 v2 v3 v4 v5 v6 v7 v8 : D) : D := Am ts 26 (.row [.int (1 : Nat), v0, v1, v2, v3, v4, v5, v6, v7, v8])
def Ph (v0 v1 v2 v3 v4 v5 v6 v7 v8 : D) : D := Am ts 26 (.row [.int (2 : Nat), v0, v1, v2, v3, v4, v5, v6, v7, v8])
def Ug (v0 v1 v2 v3 v4 v5 v6 v7 v8 v9 v10 v11 v12 v13 v14 v15 : D) : D := Am ts 27 (.row [.int (0 : Nat), v0, v1, v2, v3, v4, v5, v6, v7, v8, v9, v10, v11, v12, v13, v14, v15])
theorem Zm (v0 v1 v2 v3 : D) : MA v0 v1 v2 v3 =
  cond (6 < (len v1 : Int)) (
 .row [.int 1, (.bool false)]) (
 cond (12 < (len v3 : Int)) (
 .row [.int 1, (.bool false)]) (
 cond (5 < (len v2 : Int)) (
 .row [.int 1, (.bool false)]) (
 cond (40 < (Bq v0 : Int)) (
 .row [.int 1, (.bool false)]) (
 PK (.int 0) (.int 0) v0 v1 v2 v3)))) := gw rfl rfl rfl
theorem Wk (v0 v1 : Int) (v2 v3 v4 v5 : D) : PK (.int v0) (.int v1) v2 v3 v4 v5 =
  cond (v1 < len v4) (
 cond (v1 < 0) (
 .row []) (
 cond ((cl v4 v1 1).toInt < 0) (
 cond (40 < (Bq (cl v4 v1 0) : Int)) (
 .row [.int 1, (.bool false)]) (
 PK (.int (IntKind.wrap .i64 (v0 + 0))) (.int (IntKind.wrap .i64 (v1 + 1))) v2 v3 v4 v5)) (
 cond (100 < (cl v4 v1 1).toInt) (
 cond (40 < (Bq (cl v4 v1 0) : Int)) (
 .row [.int 1, (.bool false)]) (
 PK (.int (IntKind.wrap .i64 (v0 + 100))) (.int (IntKind.wrap .i64 (v1 + 1))) v2 v3 v4 v5)) (
 cond (40 < (Bq (cl v4 v1 0) : Int)) (
 .row [.int 1, (.bool false)]) (
 PK (.int (IntKind.wrap .i64 (v0 + (cl v4 v1 1).toInt))) (.int (IntKind.wrap .i64 (v1 + 1))) v2 v3 v4 v5))))) (
 Te (.int v0) (.int 0) v2 v3 v4 v5) := gw rfl rfl rfl
theorem VM (v0 v1 : Int) (v2 v3 v4 v5 : D) : Te (.int v0) (.int v1) v2 v3 v4 v5 =
  cond (v1 < len v3) (
 cond (v1 < 0) (
 .row []) (
 cond (40 < (Bq (cl v3 v1 0) : Int)) (
 .row [.int 1, (.bool false)]) (
 Te (.int v0) (.int (IntKind.wrap .i64 (v1 + 1))) v2 v3 v4 v5))) (
 S9 (.int v0) (.int 0) v2 v3 v4 v5) := gw rfl rfl rfl
theorem VF (v0 v1 : Int) (v2 v3 v4 v5 : D) : S9 (.int v0) (.int v1) v2 v3 v4 v5 =
  cond (v1 < len v5) (
 cond (v1 < 0) (
 .row []) (
 cond (40 < (Bq (cl v5 v1 0) : Int)) (
 .row [.int 1, (.bool false)]) (
 cond (40 < (Bq (cl v5 v1 1) : Int)) (
 .row [.int 1, (.bool false)]) (
 cond (40 < (Bq (cl v5 v1 3) : Int)) (
 .row [.int 1, (.bool false)]) (
 cond (40 < (Bq (cl v5 v1 4) : Int)) (
 .row [.int 1, (.bool false)]) (
 cond (40 < (Bq (cl v5 v1 5) : Int)) (
 .row [.int 1, (.bool false)]) (
 S9 (.int v0) (.int (IntKind.wrap .i64 (v1 + 1))) v2 v3 v4 v5))))))) (
 .row [.int 1, (.bool (!decide (30 < v0)))]) := gw rfl rfl rfl
theorem Zc : Kh =
 .row [.int 1] := gw rfl rfl rfl
theorem Zj (v0 : D) : EK v0 =
  cond ((Bq v0 : Int) < 1) (
 .row [.int 1, (.bool false)]) (
 cond (32 < (Bq v0 : Int)) (
 .row [.int 1, (.bool false)]) (
 Np (Mj v0) (.int (len (Mj v0) : Int)) (.int 0))) := gw rfl rfl rfl
theorem Vg (v0 : D) (v1 v2 : Int) : Np v0 (.int v1) (.int v2) =
  cond (v2 < v1) (
 cond (v2 < 0) (
 .row []) (
 cond (v2 < len v0) (
 cond ((IntKind.wrap .u8 (cl v0 v2 0).toInt) < 97) (
 cond ((IntKind.wrap .u8 (cl v0 v2 0).toInt) < 65) (
 cond (v2 = 0) (
 .row [.int 1, (.bool false)]) (
 cond ((IntKind.wrap .u8 (cl v0 v2 0).toInt) < 48) (
 .row [.int 1, (.bool false)]) (
 cond (57 < (IntKind.wrap .u8 (cl v0 v2 0).toInt)) (
 .row [.int 1, (.bool false)]) (
 Np v0 (.int v1) (.int (IntKind.wrap .i64 (v2 + 1))))))) (
 cond (90 < (IntKind.wrap .u8 (cl v0 v2 0).toInt)) (
 cond (v2 = 0) (
 .row [.int 1, (.bool false)]) (
 cond ((IntKind.wrap .u8 (cl v0 v2 0).toInt) = 95) (
 Np v0 (.int v1) (.int (IntKind.wrap .i64 (v2 + 1)))) (
 .row [.int 1, (.bool false)]))) (
 Np v0 (.int v1) (.int (IntKind.wrap .i64 (v2 + 1)))))) (
 cond (122 < (IntKind.wrap .u8 (cl v0 v2 0).toInt)) (
 cond (v2 = 0) (
 .row [.int 1, (.bool false)]) (
 .row [.int 1, (.bool false)])) (
 Np v0 (.int v1) (.int (IntKind.wrap .i64 (v2 + 1)))))) (
 .row []))) (
 .row [.int 1, (.bool true)]) := gw rfl rfl (cL (cL rfl (cL (cL (cL (cQ rfl rfl) (cL (cQ rfl (cQ rfl rfl)) rfl)) (cL (cQ rfl rfl) rfl)) rfl)) rfl)
theorem Y7 (v0 v1 : D) : RX v0 v1 =
 TH v0 (.int 0) v1 := gw rfl rfl rfl
theorem YO (v0 : D) (v1 : Int) (v2 : D) : TH v0 (.int v1) v2 =
  cond (v1 < len v0) (
 cond (v1 < 0) (
 .row []) (
 cond (D.strEq (cl v0 v1 0) v2) (
 .row [.int 1, (.int v1)]) (
 TH v0 (.int (IntKind.wrap .i64 (v1 + 1))) v2))) (
 .row [.int 1, (.int (-1))]) := gw rfl rfl rfl
theorem Y8 (v0 v1 v2 : Int) (v3 v4 v5 v6 : D) : Qn (.int v0) (.int v1) (.int v2) v3 v4 v5 v6 =
  cond (v0 < v1) (
 .row [.int 1, (.int 0)]) (
 cond (v2 < v0) (
 .row [.int 1, (.int v2)]) (
 P3 (.int v0) (.int 0) v3 v4 v5 v6)) := gw rfl rfl rfl
theorem VN (v0 v1 : Int) (v2 v3 v4 v5 : D) : P3 (.int v0) (.int v1) v2 v3 v4 v5 =
  cond (v1 < v0) (
 cond (v1 < 0) (
 .row []) (
 cond (v1 < len v4) (
 cond ((sl (EK (cl v4 v1 0)) 0).toInt = 1) (
 cond ((sl (EK (cl v4 v1 0)) 1).toBool) (
 cond ((sl (RX v4 (cl v4 v1 0)) 0).toInt = 1) (
 cond ((sl (RX v4 (cl v4 v1 0)) 1).toInt < v1) (
 .row [.int 1, (.int v1)]) (
 cond ((cl v4 v1 1).toInt < 1) (
 .row [.int 1, (.int v1)]) (
 cond (1000 < (cl v4 v1 1).toInt) (
 .row [.int 1, (.int v1)]) (
 P3 (.int v0) (.int (IntKind.wrap .i64 (v1 + 1))) v2 v3 v4 v5)))) (
 .row [])) (
 .row [.int 1, (.int v1)])) (
 .row [])) (
 .row []))) (
 .row [.int 1, (.int (-1))]) := gw rfl rfl (cL (cL rfl (cL (cQ (cg rfl (cQ (cL rfl (cL rfl (cL rfl rfl))) rfl) rfl) rfl) rfl)) rfl)
theorem ZE (v0 v1 : D) : Hv v0 v1 =
 SA v0 (.int 0) v1 := gw rfl rfl rfl
theorem Y4 (v0 : D) (v1 : Int) (v2 : D) : SA v0 (.int v1) v2 =
  cond (v1 < len v0) (
 cond (v1 < 0) (
 .row []) (
 cond (D.strEq (cl v0 v1 0) v2) (
 .row [.int 1, (.int v1)]) (
 SA v0 (.int (IntKind.wrap .i64 (v1 + 1))) v2))) (
 .row [.int 1, (.int (-1))]) := gw rfl rfl rfl
theorem Zq (v0 v1 v2 : Int) (v3 v4 v5 v6 : D) : Qb (.int v0) (.int v1) (.int v2) v3 v4 v5 v6 =
  cond (v0 < v1) (
 .row [.int 1, (.int 0)]) (
 cond (v2 < v0) (
 .row [.int 1, (.int v2)]) (
 Qu (.int v0) (.int 0) v3 v4 v5 v6)) := gw rfl rfl rfl
theorem VK (v0 v1 : Int) (v2 v3 v4 v5 : D) : Qu (.int v0) (.int v1) v2 v3 v4 v5 =
  cond (v1 < v0) (
 cond (v1 < 0) (
 .row []) (
 cond (v1 < len v3) (
 cond ((sl (EK (cl v3 v1 0)) 0).toInt = 1) (
 cond ((sl (EK (cl v3 v1 0)) 1).toBool) (
 cond ((sl (Hv v3 (cl v3 v1 0)) 0).toInt = 1) (
 cond ((sl (Hv v3 (cl v3 v1 0)) 1).toInt < v1) (
 .row [.int 1, (.int v1)]) (
 cond ((cl v3 v1 2).toInt < 0) (
 .row [.int 1, (.int v1)]) (
 cond (1048576 < (cl v3 v1 2).toInt) (
 .row [.int 1, (.int v1)]) (
 Qu (.int v0) (.int (IntKind.wrap .i64 (v1 + 1))) v2 v3 v4 v5)))) (
 .row [])) (
 .row [.int 1, (.int v1)])) (
 .row [])) (
 .row []))) (
 .row [.int 1, (.int (-1))]) := gw rfl rfl (cL (cL rfl (cL (cQ (cg rfl (cQ (cL rfl (cL rfl (cL rfl rfl))) rfl) rfl) rfl) rfl)) rfl)
theorem ZP (v0 v1 v2 : D) (v3 : Int) (v4 v5 v6 : D) (v7 v8 v9 : Int) : Vl v0 v1 v2 (.int v3) v4 v5 v6 (.int v7) (.int v8) (.int v9) =
 Qs v0 (.int 0) v1 v2 (.int v3) v4 v5 v6 (.int v7) (.int v8) (.int v9) := gw rfl rfl rfl
theorem Wb (v0 : D) (v1 : Int) (v2 v3 : D) (v4 : Int) (v5 v6 v7 : D) (v8 v9 v10 : Int) : Qs v0 (.int v1) v2 v3 (.int v4) v5 v6 v7 (.int v8) (.int v9) (.int v10) =
  cond (v1 < len v0) (
 cond (v1 < 0) (
 .row []) (
 cond ((D.strEq v2 (cl v0 v1 0) && (D.strEq v3 (cl v0 v1 1) && (decide (v4 = (cl v0 v1 2).toInt) && (D.strEq v5 (cl v0 v1 3) && (D.strEq v6 (cl v0 v1 4) && (D.strEq v7 (cl v0 v1 5) && (decide (v8 = (cl v0 v1 6).toInt) && (decide (v9 = (cl v0 v1 7).toInt) && decide (v10 = (cl v0 v1 8).toInt)))))))))) (
 .row [.int 1, (.int v1)]) (
 Qs v0 (.int (IntKind.wrap .i64 (v1 + 1))) v2 v3 (.int v4) v5 v6 v7 (.int v8) (.int v9) (.int v10)))) (
 .row [.int 1, (.int (-1))]) := gw rfl rfl (cL (cL rfl (cg (aE rfl (aE rfl (aE (qE rfl rfl) (aE rfl (aE rfl (aE rfl (aE (qE rfl rfl) (aE (qE rfl rfl) (qE rfl rfl))))))))) rfl rfl)) rfl)
theorem ZS (v0 v1 v2 : Int) (v3 v4 v5 v6 : D) : Qw (.int v0) (.int v1) (.int v2) v3 v4 v5 v6 =
  cond (v0 < v1) (
 .row [.int 1, (.int 0)]) (
 cond (v2 < v0) (
 .row [.int 1, (.int v2)]) (
 Gw (.int v0) (.int 0) v3 v4 v5 v6)) := gw rfl rfl rfl
theorem VS (v0 v1 : Int) (v2 v3 v4 v5 : D) {F0 F1 F2 : D} (h0 : Vl (sb v5 0 v1) (cl v5 v1 0) (cl v5 v1 1) (cl v5 v1 2) (cl v5 v1 3) (cl v5 v1 4) (cl v5 v1 5) (cl v5 v1 6) (cl v5 v1 7) (cl v5 v1 8) = F0) (h1 : RX v4 (cl v5 v1 5) = F1) (h2 : Hv v3 (cl v5 v1 0) = F2) : Gw (.int v0) (.int v1) v2 v3 v4 v5 =
  cond (v1 < v0) (
 cond (v1 < 0) (
 .row []) (
 cond (v1 < len v5) (
 cond ((cl v5 v1 2).toInt = 1) (
 cond ((sl F2 0).toInt = 1) (
 cond ((sl F1 0).toInt = 1) (
 cond ((sl F2 1).toInt < 0) (
 .row [.int 1, (.int v1)]) (
 cond ((sl (Hv v3 (cl v5 v1 1)) 0).toInt = 1) (
 cond ((sl (Hv v3 (cl v5 v1 1)) 1).toInt < 0) (
 .row [.int 1, (.int v1)]) (
 cond (len v5 < v1) (
 .row []) (
 cond ((sl F0 0).toInt = 1) (
 cond ((sl F0 1).toInt < 0) (
 cond ((sl F2 1).toInt < len v3) (
 cond ((sl (EK (cl v5 v1 3)) 0).toInt = 1) (
 cond ((sl (EK (cl v5 v1 3)) 1).toBool) (
 cond ((sl (EK (cl v5 v1 4)) 0).toInt = 1) (
 cond ((sl (EK (cl v5 v1 4)) 1).toBool) (
 cond (D.strEq (cl v5 v1 4) v2) (
 .row [.int 1, (.int v1)]) (
 cond (eqC (cl v5 v1 5) 0 0) (
 cond ((cl v5 v1 6).toInt = 0) (
 cond ((cl v5 v1 7).toInt = 0) (
 cond ((cl v5 v1 8).toInt = 0) (
 Gw (.int v0) (.int (IntKind.wrap .i64 (v1 + 1))) v2 v3 v4 v5) (
 .row [.int 1, (.int v1)])) (
 .row [.int 1, (.int v1)])) (
 .row [.int 1, (.int v1)])) (
 cond ((sl F1 1).toInt < 0) (
 .row [.int 1, (.int v1)]) (
 cond ((cl v5 v1 6).toInt < 0) (
 .row [.int 1, (.int v1)]) (
 cond ((cl v5 v1 7).toInt < (cl v5 v1 6).toInt) (
 .row [.int 1, (.int v1)]) (
 cond ((cl v5 v1 8).toInt < (-1000)) (
 .row [.int 1, (.int v1)]) (
 cond (1000 < (cl v5 v1 8).toInt) (
 .row [.int 1, (.int v1)]) (
 cond ((sl F1 1).toInt < len v4) (
 cond ((cl v4 (sl F1 1).toInt 1).toInt < (cl v5 v1 7).toInt) (
 .row [.int 1, (.int v1)]) (
 cond ((IntKind.wrap .i64 ((cl v5 v1 6).toInt + (cl v5 v1 8).toInt)) < 0) (
 .row [.int 1, (.int v1)]) (
 cond ((cl v4 (sl F1 1).toInt 1).toInt < (IntKind.wrap .i64 ((cl v5 v1 7).toInt + (cl v5 v1 8).toInt))) (
 .row [.int 1, (.int v1)]) (
 Gw (.int v0) (.int (IntKind.wrap .i64 (v1 + 1))) v2 v3 v4 v5)))) (
 .row []))))))))) (
 .row [.int 1, (.int v1)])) (
 .row [])) (
 .row [.int 1, (.int v1)])) (
 .row [])) (
 .row [])) (
 .row [.int 1, (.int v1)])) (
 .row [])))) (
 .row []))) (
 .row [])) (
 .row [])) (
 cond ((cl v5 v1 2).toInt = 2) (
 cond ((sl F2 0).toInt = 1) (
 cond ((sl F1 0).toInt = 1) (
 cond ((sl F2 1).toInt < 0) (
 .row [.int 1, (.int v1)]) (
 cond ((sl (Hv v3 (cl v5 v1 1)) 0).toInt = 1) (
 cond ((sl (Hv v3 (cl v5 v1 1)) 1).toInt < 0) (
 .row [.int 1, (.int v1)]) (
 cond (len v5 < v1) (
 .row []) (
 cond ((sl F0 0).toInt = 1) (
 cond ((sl F0 1).toInt < 0) (
 cond ((sl F2 1).toInt < len v3) (
 cond ((sl (EK (cl v5 v1 3)) 0).toInt = 1) (
 cond ((sl (EK (cl v5 v1 3)) 1).toBool) (
 cond ((sl (EK (cl v5 v1 4)) 0).toInt = 1) (
 cond ((sl (EK (cl v5 v1 4)) 1).toBool) (
 cond (D.strEq (cl v5 v1 4) v2) (
 .row [.int 1, (.int v1)]) (
 cond (eqC (cl v5 v1 5) 0 0) (
 cond ((cl v5 v1 6).toInt = 0) (
 cond ((cl v5 v1 7).toInt = 0) (
 cond ((cl v5 v1 8).toInt = 0) (
 Gw (.int v0) (.int (IntKind.wrap .i64 (v1 + 1))) v2 v3 v4 v5) (
 .row [.int 1, (.int v1)])) (
 .row [.int 1, (.int v1)])) (
 .row [.int 1, (.int v1)])) (
 cond ((sl F1 1).toInt < 0) (
 .row [.int 1, (.int v1)]) (
 cond ((cl v5 v1 6).toInt < 0) (
 .row [.int 1, (.int v1)]) (
 cond ((cl v5 v1 7).toInt < (cl v5 v1 6).toInt) (
 .row [.int 1, (.int v1)]) (
 cond ((cl v5 v1 8).toInt < (-1000)) (
 .row [.int 1, (.int v1)]) (
 cond (1000 < (cl v5 v1 8).toInt) (
 .row [.int 1, (.int v1)]) (
 cond ((sl F1 1).toInt < len v4) (
 cond ((cl v4 (sl F1 1).toInt 1).toInt < (cl v5 v1 7).toInt) (
 .row [.int 1, (.int v1)]) (
 cond ((IntKind.wrap .i64 ((cl v5 v1 6).toInt + (cl v5 v1 8).toInt)) < 0) (
 .row [.int 1, (.int v1)]) (
 cond ((cl v4 (sl F1 1).toInt 1).toInt < (IntKind.wrap .i64 ((cl v5 v1 7).toInt + (cl v5 v1 8).toInt))) (
 .row [.int 1, (.int v1)]) (
 Gw (.int v0) (.int (IntKind.wrap .i64 (v1 + 1))) v2 v3 v4 v5)))) (
 .row []))))))))) (
 .row [.int 1, (.int v1)])) (
 .row [])) (
 .row [.int 1, (.int v1)])) (
 .row [])) (
 .row [])) (
 .row [.int 1, (.int v1)])) (
 .row [])))) (
 .row []))) (
 .row [])) (
 .row [])) (
 cond ((cl v5 v1 2).toInt = 3) (
 cond ((sl F2 0).toInt = 1) (
 cond ((sl F1 0).toInt = 1) (
 cond ((sl F2 1).toInt < 0) (
 .row [.int 1, (.int v1)]) (
 cond ((sl (Hv v3 (cl v5 v1 1)) 0).toInt = 1) (
 cond ((sl (Hv v3 (cl v5 v1 1)) 1).toInt < 0) (
 .row [.int 1, (.int v1)]) (
 cond (len v5 < v1) (
 .row []) (
 cond ((sl F0 0).toInt = 1) (
 cond ((sl F0 1).toInt < 0) (
 cond ((sl F2 1).toInt < len v3) (
 cond (0 < (cl v3 (sl F2 1).toInt 2).toInt) (
 cond ((Bq (cl v5 v1 3) : Int) < 4611686018427387904) (
 cond ((Bq (cl v5 v1 4) : Int) < 4611686018427387904) (
 cond (eqC (Tg (cl v5 v1 3) (cl v5 v1 4)) 0 0) (
 cond (eqC (cl v5 v1 5) 0 0) (
 cond ((cl v5 v1 6).toInt = 0) (
 cond ((cl v5 v1 7).toInt = 0) (
 cond ((cl v5 v1 8).toInt = 0) (
 Gw (.int v0) (.int (IntKind.wrap .i64 (v1 + 1))) v2 v3 v4 v5) (
 .row [.int 1, (.int v1)])) (
 .row [.int 1, (.int v1)])) (
 .row [.int 1, (.int v1)])) (
 cond ((sl F1 1).toInt < 0) (
 .row [.int 1, (.int v1)]) (
 cond ((cl v5 v1 6).toInt < 0) (
 .row [.int 1, (.int v1)]) (
 cond ((cl v5 v1 7).toInt < (cl v5 v1 6).toInt) (
 .row [.int 1, (.int v1)]) (
 cond ((cl v5 v1 8).toInt < (-1000)) (
 .row [.int 1, (.int v1)]) (
 cond (1000 < (cl v5 v1 8).toInt) (
 .row [.int 1, (.int v1)]) (
 cond ((sl F1 1).toInt < len v4) (
 cond ((cl v4 (sl F1 1).toInt 1).toInt < (cl v5 v1 7).toInt) (
 .row [.int 1, (.int v1)]) (
 cond ((IntKind.wrap .i64 ((cl v5 v1 6).toInt + (cl v5 v1 8).toInt)) < 0) (
 .row [.int 1, (.int v1)]) (
 cond ((cl v4 (sl F1 1).toInt 1).toInt < (IntKind.wrap .i64 ((cl v5 v1 7).toInt + (cl v5 v1 8).toInt))) (
 .row [.int 1, (.int v1)]) (
 Gw (.int v0) (.int (IntKind.wrap .i64 (v1 + 1))) v2 v3 v4 v5)))) (
 .row [])))))))) (
 .row [.int 1, (.int v1)])) (
 .row [])) (
 .row [])) (
 .row [.int 1, (.int v1)])) (
 .row [])) (
 .row [.int 1, (.int v1)])) (
 .row [])))) (
 .row []))) (
 .row [])) (
 .row [])) (
 cond ((cl v5 v1 2).toInt = 4) (
 cond ((sl F2 0).toInt = 1) (
 cond ((sl F1 0).toInt = 1) (
 cond ((sl F2 1).toInt < 0) (
 .row [.int 1, (.int v1)]) (
 cond ((sl (Hv v3 (cl v5 v1 1)) 0).toInt = 1) (
 cond ((sl (Hv v3 (cl v5 v1 1)) 1).toInt < 0) (
 .row [.int 1, (.int v1)]) (
 cond (len v5 < v1) (
 .row []) (
 cond ((sl F0 0).toInt = 1) (
 cond ((sl F0 1).toInt < 0) (
 cond ((sl F2 1).toInt < len v3) (
 cond ((Bq (cl v5 v1 3) : Int) < 4611686018427387904) (
 cond ((Bq (cl v5 v1 4) : Int) < 4611686018427387904) (
 cond (eqC (Tg (cl v5 v1 3) (cl v5 v1 4)) 0 0) (
 cond (eqC (cl v5 v1 5) 0 0) (
 cond ((cl v5 v1 6).toInt = 0) (
 cond ((cl v5 v1 7).toInt = 0) (
 cond ((cl v5 v1 8).toInt = 0) (
 Gw (.int v0) (.int (IntKind.wrap .i64 (v1 + 1))) v2 v3 v4 v5) (
 .row [.int 1, (.int v1)])) (
 .row [.int 1, (.int v1)])) (
 .row [.int 1, (.int v1)])) (
 cond ((sl F1 1).toInt < 0) (
 .row [.int 1, (.int v1)]) (
 cond ((cl v5 v1 6).toInt < 0) (
 .row [.int 1, (.int v1)]) (
 cond ((cl v5 v1 7).toInt < (cl v5 v1 6).toInt) (
 .row [.int 1, (.int v1)]) (
 cond ((cl v5 v1 8).toInt < (-1000)) (
 .row [.int 1, (.int v1)]) (
 cond (1000 < (cl v5 v1 8).toInt) (
 .row [.int 1, (.int v1)]) (
 cond ((sl F1 1).toInt < len v4) (
 cond ((cl v4 (sl F1 1).toInt 1).toInt < (cl v5 v1 7).toInt) (
 .row [.int 1, (.int v1)]) (
 cond ((IntKind.wrap .i64 ((cl v5 v1 6).toInt + (cl v5 v1 8).toInt)) < 0) (
 .row [.int 1, (.int v1)]) (
 cond ((cl v4 (sl F1 1).toInt 1).toInt < (IntKind.wrap .i64 ((cl v5 v1 7).toInt + (cl v5 v1 8).toInt))) (
 .row [.int 1, (.int v1)]) (
 Gw (.int v0) (.int (IntKind.wrap .i64 (v1 + 1))) v2 v3 v4 v5)))) (
 .row [])))))))) (
 .row [.int 1, (.int v1)])) (
 .row [])) (
 .row [])) (
 .row [])) (
 .row [.int 1, (.int v1)])) (
 .row [])))) (
 .row []))) (
 .row [])) (
 .row [])) (
 cond ((sl F2 0).toInt = 1) (
 cond ((sl F1 0).toInt = 1) (
 .row [.int 1, (.int v1)]) (
 .row [])) (
 .row [])))))) (
 .row []))) (
 .row [.int 1, (.int (-1))]) := by
  subst h0; subst h1; subst h2; exact gw rfl rfl (cL (cL rfl (cL (cQ (cQ (cQ (cL rfl (cQ (cL rfl (cL rfl (cQ (cL (cL (cQ (cg rfl (cQ (cg rfl (cg rfl rfl (cg rfl (cQ (cQ (cQ rfl rfl) rfl) rfl) (cL rfl (cL rfl (cL rfl (cL rfl (cL rfl rfl))))))) rfl) rfl) rfl) rfl) rfl) rfl) rfl))) rfl)) rfl) rfl) (cQ (cQ (cQ (cL rfl (cQ (cL rfl (cL rfl (cQ (cL (cL (cQ (cg rfl (cQ (cg rfl (cg rfl rfl (cg rfl (cQ (cQ (cQ rfl rfl) rfl) rfl) (cL rfl (cL rfl (cL rfl (cL rfl (cL rfl rfl))))))) rfl) rfl) rfl) rfl) rfl) rfl) rfl))) rfl)) rfl) rfl) (cQ (cQ (cQ (cL rfl (cQ (cL rfl (cL rfl (cQ (cL (cL (cL (cL (cL (cg rfl (cg rfl (cQ (cQ (cQ rfl rfl) rfl) rfl) (cL rfl (cL rfl (cL rfl (cL rfl (cL rfl rfl)))))) rfl) rfl) rfl) rfl) rfl) rfl) rfl))) rfl)) rfl) rfl) (cQ (cQ (cQ (cL rfl (cQ (cL rfl (cL rfl (cQ (cL (cL (cL (cL (cg rfl (cg rfl (cQ (cQ (cQ rfl rfl) rfl) rfl) (cL rfl (cL rfl (cL rfl (cL rfl (cL rfl rfl)))))) rfl) rfl) rfl) rfl) rfl) rfl))) rfl)) rfl) rfl) (cQ (cQ rfl rfl) rfl))))) rfl)) rfl)
theorem YP (v0 v1 : D) : PO v0 v1 =
 Su v0 (.int 0) v1 := gw rfl rfl rfl
theorem Y6 (v0 : D) (v1 : Int) (v2 : D) : Su v0 (.int v1) v2 =
  cond (v1 < len v0) (
 cond (v1 < 0) (
 .row []) (
 cond (D.strEq (cl v0 v1 0) v2) (
 .row [.int 1, (.int v1)]) (
 Su v0 (.int (IntKind.wrap .i64 (v1 + 1))) v2))) (
 .row [.int 1, (.int (-1))]) := gw rfl rfl rfl
theorem X6 (v0 v1 : D) : Ky v0 v1 =
 Pr v0 (.int 0) v1 := gw rfl rfl rfl
theorem V6 (v0 : D) (v1 : Int) (v2 : D) : Pr v0 (.int v1) v2 =
  cond (v1 < len v0) (
 cond (v1 < 0) (
 .row []) (
 cond (D.strEq (cl v0 v1 0) v2) (
 .row [.int 1, (.int v1)]) (
 Pr v0 (.int (IntKind.wrap .i64 (v1 + 1))) v2))) (
 .row [.int 1, (.int (-1))]) := gw rfl rfl rfl
theorem Wf (v0 v1 v2 v3 v4 v5 v6 v7 v8 v9 : D) : In v0 v1 v2 v3 v4 v5 v6 v7 v8 v9 =
  cond ((sl (EK v0) 0).toInt = 1) (
 cond ((sl (EK v0) 1).toBool) (
 cond ((sl (Qn (.int (len v2 : Int)) (.int 0) (.int 4) v0 v1 v2 v3) 0).toInt = 1) (
 cond ((sl (Qn (.int (len v2 : Int)) (.int 0) (.int 4) v0 v1 v2 v3) 1).toInt < 0) (
 cond ((sl (Qb (.int (len v1 : Int)) (.int 1) (.int 24) v0 v1 v2 v3) 0).toInt = 1) (
 cond ((sl (Qb (.int (len v1 : Int)) (.int 1) (.int 24) v0 v1 v2 v3) 1).toInt < 0) (
 cond ((sl (Qw (.int (len v3 : Int)) (.int 0) (.int 80) v0 v1 v2 v3) 0).toInt = 1) (
 cond ((sl (Qw (.int (len v3 : Int)) (.int 0) (.int 80) v0 v1 v2 v3) 1).toInt < 0) (
 cond ((sl (EK v4) 0).toInt = 1) (
 cond ((sl (EK v4) 1).toBool) (
 cond ((sl (Qn (.int (len v6 : Int)) (.int 0) (.int 4) v4 v5 v6 v7) 0).toInt = 1) (
 cond ((sl (Qn (.int (len v6 : Int)) (.int 0) (.int 4) v4 v5 v6 v7) 1).toInt < 0) (
 cond ((sl (Qb (.int (len v5 : Int)) (.int 1) (.int 24) v4 v5 v6 v7) 0).toInt = 1) (
 cond ((sl (Qb (.int (len v5 : Int)) (.int 1) (.int 24) v4 v5 v6 v7) 1).toInt < 0) (
 cond ((sl (Qw (.int (len v7 : Int)) (.int 0) (.int 80) v4 v5 v6 v7) 0).toInt = 1) (
 cond ((sl (Qw (.int (len v7 : Int)) (.int 0) (.int 80) v4 v5 v6 v7) 1).toInt < 0) (
 cond (24 < (len v8 : Int)) (
 .row [.int 1, (.int 24), (.int 490)]) (
 Fe v0 v1 v2 v3 v4 v5 v6 v7 v8 v9 (.bool (decide (24 < (len v8 : Int)))) (.int 0) Lq)) (
 .row [.int 1, (.int 0), (.int 2)])) (
 .row [])) (
 .row [.int 1, (.int 0), (.int 2)])) (
 .row [])) (
 .row [.int 1, (.int 0), (.int 2)])) (
 .row [])) (
 .row [.int 1, (.int 0), (.int 2)])) (
 .row [])) (
 .row [.int 1, (.int 0), (.int 2)])) (
 .row [])) (
 .row [.int 1, (.int 0), (.int 2)])) (
 .row [])) (
 .row [.int 1, (.int 0), (.int 2)])) (
 .row [])) (
 .row [.int 1, (.int 0), (.int 2)])) (
 .row []) := gw rfl rfl (cQ (cg rfl (cQ (cL (cQ (cL (cQ (cL (cQ (cg rfl (cQ (cL (cQ (cL (cQ rfl rfl) rfl) rfl) rfl) rfl) rfl) rfl) rfl) rfl) rfl) rfl) rfl) rfl) rfl) rfl)
theorem Un (v0 v1 v2 v3 v4 v5 v6 v7 v8 v9 : D) (v10 : Bool) (v11 : Int) (v12 : D) : Fe v0 v1 v2 v3 v4 v5 v6 v7 v8 v9 (.bool v10) (.int v11) v12 =
  cond (v11 < len v8) (
 cond (v11 < 0) (
 .row []) (
 cond ((sl (PO v1 (cl v8 v11 0)) 0).toInt = 1) (
 cond ((sl (PO v1 (cl v8 v11 0)) 1).toInt < 0) (
 .row [.int 1, (.int v11), (.int 490)]) (
 cond ((sl (PO v5 (cl v8 v11 1)) 0).toInt = 1) (
 cond ((sl (PO v5 (cl v8 v11 1)) 1).toInt < 0) (
 .row [.int 1, (.int v11), (.int 490)]) (
 cond ((mIx [.str] v12 (.row [(cl v8 v11 0)])) < 0) (
 Fe v0 v1 v2 v3 v4 v5 v6 v7 v8 v9 (.bool v10) (.int (IntKind.wrap .i64 (v11 + 1))) (ad v12 (.row [(cl v8 v11 0), (.bool true)]))) (
 cond ((cl v12 (mIx [.str] v12 (.row [(cl v8 v11 0)])) 1).toBool) (
 .row [.int 1, (.int v11), (.int 490)]) (
 Fe v0 v1 v2 v3 v4 v5 v6 v7 v8 v9 (.bool v10) (.int (IntKind.wrap .i64 (v11 + 1))) (upd v12 (mIx [.str] v12 (.row [(cl v8 v11 0)])) 1 (.bool true)))))) (
 .row []))) (
 .row []))) (
 cond (4 < (len v9 : Int)) (
 .row [.int 1, (.int 4), (.int 491)]) (
 DA v0 v1 v2 v3 v4 v5 v6 v7 v8 v9 (.bool v10) (.int v11) (.bool (decide (v11 < (len v8 : Int)))) (.bool (decide (4 < (len v9 : Int)))) (.int 0) Lq)) := gw rfl rfl (cL (cL rfl (cQ (cL rfl (cQ rfl rfl)) rfl)) rfl)
theorem Uk (v0 v1 v2 v3 v4 v5 v6 v7 v8 v9 : D) (v10 : Bool) (v11 : Int) (v12 v13 : Bool) (v14 : Int) (v15 : D) : DA v0 v1 v2 v3 v4 v5 v6 v7 v8 v9 (.bool v10) (.int v11) (.bool v12) (.bool v13) (.int v14) v15 =
  cond (v14 < len v9) (
 cond (v14 < 0) (
 .row []) (
 cond ((sl (Ky v6 (cl v9 v14 0)) 0).toInt = 1) (
 cond ((sl (Ky v6 (cl v9 v14 0)) 1).toInt < 0) (
 .row [.int 1, (.int v14), (.int 491)]) (
 cond (eqC (cl v9 v14 1) 0 0) (
 cond ((mIx [.str] v15 (.row [(cl v9 v14 0)])) < 0) (
 cond ((cl v9 v14 2).toInt < (IntKind.wrap .i64 (0 - (cl v9 v14 2).toInt))) (
 cond (1000 < (IntKind.wrap .i64 (0 - (cl v9 v14 2).toInt))) (
 .row [.int 1, (.int v14), (.int 491)]) (
 cond ((cl v9 v14 2).toInt < (-1000)) (
 .row [.int 1, (.int v14), (.int 491)]) (
 DA v0 v1 v2 v3 v4 v5 v6 v7 v8 v9 (.bool v10) (.int v11) (.bool v12) (.bool v13) (.int (IntKind.wrap .i64 (v14 + 1))) (ad v15 (.row [(cl v9 v14 0), (.bool true)]))))) (
 cond (1000 < (cl v9 v14 2).toInt) (
 .row [.int 1, (.int v14), (.int 491)]) (
 cond ((cl v9 v14 2).toInt < (-1000)) (
 .row [.int 1, (.int v14), (.int 491)]) (
 DA v0 v1 v2 v3 v4 v5 v6 v7 v8 v9 (.bool v10) (.int v11) (.bool v12) (.bool v13) (.int (IntKind.wrap .i64 (v14 + 1))) (ad v15 (.row [(cl v9 v14 0), (.bool true)])))))) (
 cond ((cl v15 (mIx [.str] v15 (.row [(cl v9 v14 0)])) 1).toBool) (
 .row [.int 1, (.int v14), (.int 491)]) (
 cond ((cl v9 v14 2).toInt < (IntKind.wrap .i64 (0 - (cl v9 v14 2).toInt))) (
 cond (1000 < (IntKind.wrap .i64 (0 - (cl v9 v14 2).toInt))) (
 .row [.int 1, (.int v14), (.int 491)]) (
 cond ((cl v9 v14 2).toInt < (-1000)) (
 .row [.int 1, (.int v14), (.int 491)]) (
 DA v0 v1 v2 v3 v4 v5 v6 v7 v8 v9 (.bool v10) (.int v11) (.bool v12) (.bool v13) (.int (IntKind.wrap .i64 (v14 + 1))) (upd v15 (mIx [.str] v15 (.row [(cl v9 v14 0)])) 1 (.bool true))))) (
 cond (1000 < (cl v9 v14 2).toInt) (
 .row [.int 1, (.int v14), (.int 491)]) (
 cond ((cl v9 v14 2).toInt < (-1000)) (
 .row [.int 1, (.int v14), (.int 491)]) (
 DA v0 v1 v2 v3 v4 v5 v6 v7 v8 v9 (.bool v10) (.int v11) (.bool v12) (.bool v13) (.int (IntKind.wrap .i64 (v14 + 1))) (upd v15 (mIx [.str] v15 (.row [(cl v9 v14 0)])) 1 (.bool true)))))))) (
 cond ((sl (Ky v2 (cl v9 v14 1)) 0).toInt = 1) (
 cond ((sl (Ky v2 (cl v9 v14 1)) 1).toInt < 0) (
 .row [.int 1, (.int v14), (.int 491)]) (
 cond ((mIx [.str] v15 (.row [(cl v9 v14 0)])) < 0) (
 cond ((cl v9 v14 2).toInt < (IntKind.wrap .i64 (0 - (cl v9 v14 2).toInt))) (
 cond (1000 < (IntKind.wrap .i64 (0 - (cl v9 v14 2).toInt))) (
 .row [.int 1, (.int v14), (.int 491)]) (
 cond ((cl v9 v14 2).toInt < (-1000)) (
 .row [.int 1, (.int v14), (.int 491)]) (
 DA v0 v1 v2 v3 v4 v5 v6 v7 v8 v9 (.bool v10) (.int v11) (.bool v12) (.bool v13) (.int (IntKind.wrap .i64 (v14 + 1))) (ad v15 (.row [(cl v9 v14 0), (.bool true)]))))) (
 cond (1000 < (cl v9 v14 2).toInt) (
 .row [.int 1, (.int v14), (.int 491)]) (
 cond ((cl v9 v14 2).toInt < (-1000)) (
 .row [.int 1, (.int v14), (.int 491)]) (
 DA v0 v1 v2 v3 v4 v5 v6 v7 v8 v9 (.bool v10) (.int v11) (.bool v12) (.bool v13) (.int (IntKind.wrap .i64 (v14 + 1))) (ad v15 (.row [(cl v9 v14 0), (.bool true)])))))) (
 cond ((cl v15 (mIx [.str] v15 (.row [(cl v9 v14 0)])) 1).toBool) (
 .row [.int 1, (.int v14), (.int 491)]) (
 cond ((cl v9 v14 2).toInt < (IntKind.wrap .i64 (0 - (cl v9 v14 2).toInt))) (
 cond (1000 < (IntKind.wrap .i64 (0 - (cl v9 v14 2).toInt))) (
 .row [.int 1, (.int v14), (.int 491)]) (
 cond ((cl v9 v14 2).toInt < (-1000)) (
 .row [.int 1, (.int v14), (.int 491)]) (
 DA v0 v1 v2 v3 v4 v5 v6 v7 v8 v9 (.bool v10) (.int v11) (.bool v12) (.bool v13) (.int (IntKind.wrap .i64 (v14 + 1))) (upd v15 (mIx [.str] v15 (.row [(cl v9 v14 0)])) 1 (.bool true))))) (
 cond (1000 < (cl v9 v14 2).toInt) (
 .row [.int 1, (.int v14), (.int 491)]) (
 cond ((cl v9 v14 2).toInt < (-1000)) (
 .row [.int 1, (.int v14), (.int 491)]) (
 DA v0 v1 v2 v3 v4 v5 v6 v7 v8 v9 (.bool v10) (.int v11) (.bool v12) (.bool v13) (.int (IntKind.wrap .i64 (v14 + 1))) (upd v15 (mIx [.str] v15 (.row [(cl v9 v14 0)])) 1 (.bool true))))))))) (
 .row [])))) (
 .row []))) (
 .row [.int 1, (.int 0), (.int 0)]) := gw rfl rfl (cL (cL rfl (cQ (cL rfl (cg rfl (cL (cL (cL rfl (cL rfl rfl)) (cL rfl (cL rfl rfl))) (cg rfl rfl (cL (cL rfl (cL rfl rfl)) (cL rfl (cL rfl rfl))))) (cQ (cL rfl (cL (cL (cL rfl (cL rfl rfl)) (cL rfl (cL rfl rfl))) (cg rfl rfl (cL (cL rfl (cL rfl rfl)) (cL rfl (cL rfl rfl)))))) rfl))) rfl)) rfl)
theorem V8 (v0 v1 v2 : D) (v3 : Int) : HX v0 v1 v2 (.int v3) =
 Pc v0 (.int 0) v1 v2 (.int v3) := gw rfl rfl rfl
theorem WW (v0 : D) (v1 : Int) (v2 v3 : D) (v4 : Int) : Pc v0 (.int v1) v2 v3 (.int v4) =
  cond (v1 < len v0) (
 cond (v1 < 0) (
 .row []) (
 cond (D.strEq (cl v0 v1 0) v3) (
 .row [.int 1, (.int v1)]) (
 Pc v0 (.int (IntKind.wrap .i64 (v1 + 1))) v2 v3 (.int v4)))) (
 .row [.int 1, (.int (-1))]) := gw rfl rfl rfl
theorem Xx (v0 v1 : D) : MY v0 v1 =
 H7 v0 BL (.bool true) v1 (.int 0) := gw rfl rfl rfl
theorem Ub (v0 v1 : D) (v2 : Bool) (v3 : D) (v4 : Int) : H7 v0 v1 (.bool v2) v3 (.int v4) =
  cond (v4 < len v3) (
 cond (v4 < 0) (
 .row []) (
 cond ((sl (HX v0 (cl v3 v4 0) (cl v3 v4 1) (cl v3 v4 2)) 0).toInt = 1) (
 cond ((sl (HX v0 (cl v3 v4 0) (cl v3 v4 1) (cl v3 v4 2)) 1).toInt < 0) (
 cond ((len v1 : Int) < 1073741824) (
 H7 v0 (ad v1 (.row [(cl v3 v4 0), (M5 0 0), (cl v3 v4 2)])) (.bool false) v3 (.int (IntKind.wrap .i64 (v4 + 1)))) (
 .row [])) (
 cond ((sl (HX v0 (cl v3 v4 0) (cl v3 v4 1) (cl v3 v4 2)) 1).toInt < len v0) (
 cond ((len v1 : Int) < 1073741824) (
 H7 v0 (ad v1 (.row [(cl v3 v4 0), (cl v0 (sl (HX v0 (cl v3 v4 0) (cl v3 v4 1) (cl v3 v4 2)) 1).toInt 1), (.int (IntKind.wrap .i64 ((cl v3 v4 2).toInt + (cl v0 (sl (HX v0 (cl v3 v4 0) (cl v3 v4 1) (cl v3 v4 2)) 1).toInt 2).toInt)))])) (.bool false) v3 (.int (IntKind.wrap .i64 (v4 + 1)))) (
 .row [])) (
 .row []))) (
 .row []))) (
 .row [.int 1, v1, (.bool v2)]) := gw rfl rfl (cL (cL rfl (cQ (cL (cL rfl rfl) (cL (cL rfl rfl) rfl)) rfl)) rfl)
theorem Wi (v0 v1 v2 : D) : K8 v0 v1 v2 =
 O5 v0 (.int 0) v1 v2 := gw rfl rfl rfl
theorem W3 (v0 : D) (v1 : Int) (v2 v3 : D) : O5 v0 (.int v1) v2 v3 =
  cond (v1 < len v0) (
 cond (v1 < 0) (
 .row []) (
 cond (D.strEq (cl v0 v1 0) v3) (
 .row [.int 1, (.int v1)]) (
 O5 v0 (.int (IntKind.wrap .i64 (v1 + 1))) v2 v3))) (
 .row [.int 1, (.int (-1))]) := gw rfl rfl rfl
theorem Xo (v0 : D) (v1 : Bool) : O6 v0 (.bool v1) =
 Ii v0 (.bool v1) (.int 0) := gw rfl rfl rfl
theorem TW (v0 : D) (v1 : Bool) (v2 : Int) : Ii v0 (.bool v1) (.int v2) =
  cond (v2 < len v0) (
 cond (v2 < 0) (
 .row []) (
 cond ((cl v0 v2 2).toInt < (IntKind.wrap .i64 (0 - (cl v0 v2 2).toInt))) (
 cond (1000 < (IntKind.wrap .i64 (0 - (cl v0 v2 2).toInt))) (
 .row [.int 1, (.int v2)]) (
 Ii v0 (.bool v1) (.int (IntKind.wrap .i64 (v2 + 1))))) (
 cond (1000 < (cl v0 v2 2).toInt) (
 .row [.int 1, (.int v2)]) (
 Ii v0 (.bool v1) (.int (IntKind.wrap .i64 (v2 + 1))))))) (
 .row [.int 1, (.int (-1))]) := gw rfl rfl (cL (cL rfl (cL (cL rfl rfl) (cL rfl rfl))) rfl)
theorem Xt (v0 v1 v2 v3 v4 v5 v6 v7 v8 v9 v10 v11 v12 v13 v14 v15 : D) : EQ v0 v1 v2 v3 v4 v5 v6 v7 v8 v9 v10 v11 v12 v13 v14 v15 =
  cond ((sl (In v0 v1 v2 v3 v4 v5 v6 v7 v12 v13) 0).toInt = 1) (
 cond ((sl (In v0 v1 v2 v3 v4 v5 v6 v7 v12 v13) 2).toInt = 0) (
 cond ((sl (In v4 v5 v6 v7 v8 v9 v10 v11 v14 v15) 0).toInt = 1) (
 cond ((sl (In v4 v5 v6 v7 v8 v9 v10 v11 v14 v15) 2).toInt = 0) (
 cond ((sl (MY v13 v15) 0).toInt = 1) (
 FW v12 (.int 0) v14 v15 BL (.bool true) (sl (MY v13 v15) 1) (sl (MY v13 v15) 2)) (
 .row [])) (
 .row [.int 1, BL, (.bool true), BL, (.bool true), (sl (In v4 v5 v6 v7 v8 v9 v10 v11 v14 v15) 2)])) (
 .row [])) (
 .row [.int 1, BL, (.bool true), BL, (.bool true), (sl (In v0 v1 v2 v3 v4 v5 v6 v7 v12 v13) 2)])) (
 .row []) := gw rfl rfl (cQ (cQ (cQ (cQ (cQ rfl rfl) rfl) rfl) rfl) rfl)
theorem Uj (v0 : D) (v1 : Int) (v2 v3 v4 : D) (v5 : Bool) (v6 : D) (v7 : Bool) : FW v0 (.int v1) v2 v3 v4 (.bool v5) v6 (.bool v7) =
  cond (v1 < len v0) (
 cond (v1 < 0) (
 .row []) (
 cond ((sl (K8 v2 (cl v0 v1 0) (cl v0 v1 1)) 0).toInt = 1) (
 cond ((sl (K8 v2 (cl v0 v1 0) (cl v0 v1 1)) 1).toInt < 0) (
 FW v0 (.int (IntKind.wrap .i64 (v1 + 1))) v2 v3 v4 (.bool v5) v6 (.bool v7)) (
 cond ((sl (K8 v2 (cl v0 v1 0) (cl v0 v1 1)) 1).toInt < len v2) (
 cond ((len v4 : Int) < 1073741824) (
 FW v0 (.int (IntKind.wrap .i64 (v1 + 1))) v2 v3 (ad v4 (.row [(cl v0 v1 0), (cl v2 (sl (K8 v2 (cl v0 v1 0) (cl v0 v1 1)) 1).toInt 1)])) (.bool false) v6 (.bool v7)) (
 .row [])) (
 .row []))) (
 .row []))) (
 cond ((sl (O6 v6 (.bool v7)) 0).toInt = 1) (
 cond ((sl (O6 v6 (.bool v7)) 1).toInt < 0) (
 .row [.int 1, v4, (.bool v5), v6, (.bool v7), (.int 0)]) (
 .row [.int 1, BL, (.bool true), BL, (.bool true), (.int 3)])) (
 .row [])) := gw rfl rfl (cL (cL rfl (cQ (cL rfl (cL (cL rfl rfl) rfl)) rfl)) (cQ rfl rfl))
theorem Xk (v0 : D) : CH v0 =
  cond ((Bq v0 : Int) < 1) (
 .row [.int 1, (.bool false)]) (
 cond (32 < (Bq v0 : Int)) (
 .row [.int 1, (.bool false)]) (
 cond ((sAt v0 0) = 95) (
 .row [.int 1, (.bool false)]) (
 cond ((sAt v0 0) < 48) (
 H4 v0 (.int 0)) (
 cond (57 < (sAt v0 0)) (
 H4 v0 (.int 0)) (
 .row [.int 1, (.bool false)]))))) := gw rfl rfl (cL rfl (cL rfl (cQ rfl rfl)))
theorem QS (v0 : D) (v1 : Int) : H4 v0 (.int v1) =
  cond (v1 < (Bq v0 : Int)) (
 cond (v1 < 0) (
 .row []) (
 cond ((sAt v0 v1) < 97) (
 cond ((sAt v0 v1) < 65) (
 cond ((sAt v0 v1) < 48) (
 .row [.int 1, (.bool false)]) (
 cond (57 < (sAt v0 v1)) (
 .row [.int 1, (.bool false)]) (
 H4 v0 (.int (IntKind.wrap .i64 (v1 + 1)))))) (
 cond (90 < (sAt v0 v1)) (
 cond ((sAt v0 v1) = 95) (
 H4 v0 (.int (IntKind.wrap .i64 (v1 + 1)))) (
 .row [.int 1, (.bool false)])) (
 H4 v0 (.int (IntKind.wrap .i64 (v1 + 1)))))) (
 cond (122 < (sAt v0 v1)) (
 .row [.int 1, (.bool false)]) (
 H4 v0 (.int (IntKind.wrap .i64 (v1 + 1))))))) (
 .row [.int 1, (.bool true)]) := gw rfl rfl (cL (cL rfl (cL (cL rfl (cL (cQ rfl rfl) rfl)) rfl)) rfl)
theorem Xr (v0 v1 v2 v3 v4 : D) : GV v0 v1 v2 v3 v4 =
 O1 v4 (.int 0) v0 v1 v2 v3 := gw rfl rfl rfl
theorem Xf (v0 : D) (v1 : Int) (v2 v3 v4 v5 : D) : O1 v0 (.int v1) v2 v3 v4 v5 =
  cond (v1 < len v4) (
 cond (v1 < 0) (
 .row []) (
 cond (D.strEq (cl v4 v1 0) v0) (
 .row [.int 1, (.int v1)]) (
 O1 v0 (.int (IntKind.wrap .i64 (v1 + 1))) v2 v3 v4 v5))) (
 .row [.int 1, (.int (-1))]) := gw rfl rfl rfl
theorem Ws (v0 v1 v2 v3 v4 : D) : FT v0 v1 v2 v3 v4 =
 OH v4 (.int 0) v0 v1 v2 v3 := gw rfl rfl rfl
theorem V1 (v0 : D) (v1 : Int) (v2 v3 v4 v5 : D) : OH v0 (.int v1) v2 v3 v4 v5 =
  cond (v1 < len v3) (
 cond (v1 < 0) (
 .row []) (
 cond (D.strEq (cl v3 v1 0) v0) (
 .row [.int 1, (.int v1)]) (
 OH v0 (.int (IntKind.wrap .i64 (v1 + 1))) v2 v3 v4 v5))) (
 .row [.int 1, (.int (-1))]) := gw rfl rfl rfl
theorem Yv (v0 v1 v2 v3 : D) (v4 : Int) : Pz v0 v1 v2 v3 (.int v4) =
  cond (v4 < 0) (
 .row []) (
 cond (v4 < len v3) (
 cond ((sl (FT v0 v1 v2 v3 (cl v3 v4 0)) 0).toInt = 1) (
 cond ((sl (FT v0 v1 v2 v3 (cl v3 v4 0)) 1).toInt < 0) (
 .row [.int 1, (.bool false)]) (
 cond ((sl (FT v0 v1 v2 v3 (cl v3 v4 1)) 0).toInt = 1) (
 cond ((sl (FT v0 v1 v2 v3 (cl v3 v4 1)) 1).toInt < 0) (
 .row [.int 1, (.bool false)]) (
 cond (eqC (cl v3 v4 5) 0 0) (
 cond ((cl v3 v4 6).toInt = 0) (
 cond ((cl v3 v4 7).toInt = 0) (
 cond ((cl v3 v4 8).toInt = 0) (
 EO (.int v4) (sl (FT v0 v1 v2 v3 (cl v3 v4 0)) 1) (.int 0) v0 v1 v2 v3 (cl v3 v4 0) (cl v3 v4 1) (cl v3 v4 2) (cl v3 v4 3) (cl v3 v4 4) (cl v3 v4 5) (cl v3 v4 6) (cl v3 v4 7) (cl v3 v4 8)) (
 .row [.int 1, (.bool false)])) (
 .row [.int 1, (.bool false)])) (
 .row [.int 1, (.bool false)])) (
 cond ((sl (GV v0 v1 v2 v3 (cl v3 v4 5)) 0).toInt = 1) (
 cond ((sl (GV v0 v1 v2 v3 (cl v3 v4 5)) 1).toInt < 0) (
 .row [.int 1, (.bool false)]) (
 cond ((cl v3 v4 6).toInt < 0) (
 .row [.int 1, (.bool false)]) (
 cond ((cl v3 v4 7).toInt < (cl v3 v4 6).toInt) (
 .row [.int 1, (.bool false)]) (
 cond ((sl (GV v0 v1 v2 v3 (cl v3 v4 5)) 1).toInt < len v2) (
 cond ((cl v2 (sl (GV v0 v1 v2 v3 (cl v3 v4 5)) 1).toInt 1).toInt < (cl v3 v4 7).toInt) (
 .row [.int 1, (.bool false)]) (
 cond ((cl v3 v4 8).toInt < (-1000)) (
 .row [.int 1, (.bool false)]) (
 cond (1000 < (cl v3 v4 8).toInt) (
 .row [.int 1, (.bool false)]) (
 cond ((IntKind.wrap .i64 ((cl v3 v4 6).toInt + (cl v3 v4 8).toInt)) < 0) (
 .row [.int 1, (.bool false)]) (
 cond ((cl v2 (sl (GV v0 v1 v2 v3 (cl v3 v4 5)) 1).toInt 1).toInt < (IntKind.wrap .i64 ((cl v3 v4 7).toInt + (cl v3 v4 8).toInt))) (
 .row [.int 1, (.bool false)]) (
 EO (.int v4) (sl (FT v0 v1 v2 v3 (cl v3 v4 0)) 1) (.int 0) v0 v1 v2 v3 (cl v3 v4 0) (cl v3 v4 1) (cl v3 v4 2) (cl v3 v4 3) (cl v3 v4 4) (cl v3 v4 5) (cl v3 v4 6) (cl v3 v4 7) (cl v3 v4 8))))))) (
 .row []))))) (
 .row [])))) (
 .row []))) (
 .row [])) (
 .row [])) := gw rfl rfl (cL rfl (cL (cQ (cL rfl (cQ (cL rfl (cg rfl (cQ (cQ (cQ rfl rfl) rfl) rfl) (cQ (cL rfl (cL rfl (cL rfl (cL (cL rfl (cL rfl (cL rfl rfl))) rfl)))) rfl))) rfl)) rfl) rfl))
theorem Ua (v0 v1 v2 : Int) (v3 v4 v5 v6 v7 v8 : D) (v9 : Int) (v10 v11 v12 : D) (v13 v14 v15 : Int) : EO (.int v0) (.int v1) (.int v2) v3 v4 v5 v6 v7 v8 (.int v9) v10 v11 v12 (.int v13) (.int v14) (.int v15) =
  cond (v2 < v0) (
 cond (v2 < 0) (
 .row []) (
 cond (v2 < len v6) (
 cond ((D.strEq (cl v6 v2 0) v7 && (D.strEq (cl v6 v2 1) v8 && (decide ((cl v6 v2 2).toInt = v9) && (D.strEq (cl v6 v2 3) v10 && (D.strEq (cl v6 v2 4) v11 && (D.strEq (cl v6 v2 5) v12 && (decide ((cl v6 v2 6).toInt = v13) && (decide ((cl v6 v2 7).toInt = v14) && decide ((cl v6 v2 8).toInt = v15)))))))))) (
 .row [.int 1, (.bool false)]) (
 EO (.int v0) (.int v1) (.int (IntKind.wrap .i64 (v2 + 1))) v3 v4 v5 v6 v7 v8 (.int v9) v10 v11 v12 (.int v13) (.int v14) (.int v15))) (
 .row []))) (
 cond (v9 = 1) (
 cond ((sl (CH v10) 0).toInt = 1) (
 cond ((sl (CH v10) 1).toBool) (
 cond ((sl (CH v11) 0).toInt = 1) (
 cond ((sl (CH v11) 1).toBool) (
 .row [.int 1, (.bool (!D.strEq v11 v3))]) (
 .row [.int 1, (.bool false)])) (
 .row [])) (
 .row [.int 1, (.bool false)])) (
 .row [])) (
 cond (v9 = 2) (
 cond ((sl (CH v10) 0).toInt = 1) (
 cond ((sl (CH v10) 1).toBool) (
 cond ((sl (CH v11) 0).toInt = 1) (
 cond ((sl (CH v11) 1).toBool) (
 .row [.int 1, (.bool (!D.strEq v11 v3))]) (
 .row [.int 1, (.bool false)])) (
 .row [])) (
 .row [.int 1, (.bool false)])) (
 .row [])) (
 cond (v9 = 3) (
 cond (eqC v10 0 0) (
 cond (eqC v11 0 0) (
 cond (v1 < 0) (
 .row []) (
 cond (v1 < len v4) (
 .row [.int 1, (.bool (decide (0 < (cl v4 v1 2).toInt)))]) (
 .row []))) (
 .row [.int 1, (.bool false)])) (
 .row [.int 1, (.bool false)])) (
 cond (v9 = 4) (
 cond (eqC v10 0 0) (
 .row [.int 1, (.bool (eqC v11 0 0))]) (
 .row [.int 1, (.bool false)])) (
 .row [.int 1, (.bool false)]))))) := gw rfl rfl (cL (cL rfl (cL (cg (aE rfl (aE rfl (aE (qE rfl rfl) (aE rfl (aE rfl (aE rfl (aE (qE rfl rfl) (aE (qE rfl rfl) (qE rfl rfl))))))))) rfl rfl) rfl)) (cQ (cQ (cg rfl (cQ rfl rfl) rfl) rfl) (cQ (cQ (cg rfl (cQ rfl rfl) rfl) rfl) (cQ rfl (cQ rfl rfl)))))
theorem VJ (v0 v1 v2 v3 : D) : KA v0 v1 v2 v3 =
  cond ((sl (CH v0) 0).toInt = 1) (
 cond ((sl (CH v0) 1).toBool) (
 cond (4 < (len v2 : Int)) (
 .row [.int 1, (.int 4), (.int 291)]) (
 Io (.int 0) v0 v1 v2 v3)) (
 .row [.int 1, (.int 0), (.int 290)])) (
 .row []) := gw rfl rfl (cQ rfl rfl)
theorem TU (v0 : Int) (v1 v2 v3 v4 : D) : Io (.int v0) v1 v2 v3 v4 =
  cond (v0 < len v3) (
 cond (v0 < 0) (
 .row []) (
 cond ((sl (CH (cl v3 v0 0)) 0).toInt = 1) (
 cond ((sl (CH (cl v3 v0 0)) 1).toBool) (
 cond ((sl (GV v1 v2 v3 v4 (cl v3 v0 0)) 0).toInt = 1) (
 cond ((sl (GV v1 v2 v3 v4 (cl v3 v0 0)) 1).toInt = v0) (
 cond ((cl v3 v0 1).toInt < 1) (
 .row [.int 1, (.int v0), (.int 291)]) (
 cond (1000 < (cl v3 v0 1).toInt) (
 .row [.int 1, (.int v0), (.int 291)]) (
 Io (.int (IntKind.wrap .i64 (v0 + 1))) v1 v2 v3 v4))) (
 .row [.int 1, (.int v0), (.int 291)])) (
 .row [])) (
 .row [.int 1, (.int v0), (.int 291)])) (
 .row []))) (
 cond ((len v2 : Int) = 0) (
 .row [.int 1, (.int 0), (.int 292)]) (
 cond (24 < (len v2 : Int)) (
 .row [.int 1, (.int 24), (.int 292)]) (
 Ij (.int 0) v1 v2 v3 v4))) := gw rfl rfl (cL (cL rfl (cQ (cg rfl (cQ (cQ (cL rfl (cL rfl rfl)) rfl) rfl) rfl) rfl)) (cQ rfl rfl))
theorem TV (v0 : Int) (v1 v2 v3 v4 : D) : Ij (.int v0) v1 v2 v3 v4 =
  cond (v0 < len v2) (
 cond (v0 < 0) (
 .row []) (
 cond ((sl (CH (cl v2 v0 0)) 0).toInt = 1) (
 cond ((sl (CH (cl v2 v0 0)) 1).toBool) (
 cond ((sl (FT v1 v2 v3 v4 (cl v2 v0 0)) 0).toInt = 1) (
 cond ((sl (FT v1 v2 v3 v4 (cl v2 v0 0)) 1).toInt = v0) (
 cond ((cl v2 v0 2).toInt < 0) (
 .row [.int 1, (.int v0), (.int 292)]) (
 cond (1048576 < (cl v2 v0 2).toInt) (
 .row [.int 1, (.int v0), (.int 292)]) (
 Ij (.int (IntKind.wrap .i64 (v0 + 1))) v1 v2 v3 v4))) (
 .row [.int 1, (.int v0), (.int 292)])) (
 .row [])) (
 .row [.int 1, (.int v0), (.int 292)])) (
 .row []))) (
 cond (80 < (len v4 : Int)) (
 .row [.int 1, (.int 80), (.int 293)]) (
 HY (.int 0) v1 v2 v3 v4)) := gw rfl rfl (cL (cL rfl (cQ (cg rfl (cQ (cQ (cL rfl (cL rfl rfl)) rfl) rfl) rfl) rfl)) rfl)
theorem T6 (v0 : Int) (v1 v2 v3 v4 : D) : HY (.int v0) v1 v2 v3 v4 =
  cond (v0 < len v4) (
 cond ((sl (Pz v1 v2 v3 v4 (.int v0)) 0).toInt = 1) (
 cond ((sl (Pz v1 v2 v3 v4 (.int v0)) 1).toBool) (
 HY (.int (IntKind.wrap .i64 (v0 + 1))) v1 v2 v3 v4) (
 .row [.int 1, (.int v0), (.int 293)])) (
 .row [])) (
 .row [.int 1, (.int 0), (.int 0)]) := gw rfl rfl (cL (cQ rfl rfl) rfl)
theorem XO (v0 v1 v2 v3 v4 : D) : KC v0 v1 v2 v3 v4 =
 Pb v4 (.int 0) v0 v1 v2 v3 := gw rfl rfl rfl
theorem Xu (v0 : D) (v1 : Int) (v2 v3 v4 v5 : D) : Pb v0 (.int v1) v2 v3 v4 v5 =
  cond (v1 < len v3) (
 cond (v1 < 0) (
 .row []) (
 cond (D.strEq (cl v3 v1 0) v0) (
 .row [.int 1, (.int v1)]) (
 Pb v0 (.int (IntKind.wrap .i64 (v1 + 1))) v2 v3 v4 v5))) (
 .row [.int 1, (.int (-1))]) := gw rfl rfl rfl
theorem XL (v0 v1 v2 v3 v4 : D) : Ko v0 v1 v2 v3 v4 =
 O4 v4 (.int 0) v0 v1 v2 v3 := gw rfl rfl rfl
theorem XD (v0 : D) (v1 : Int) (v2 v3 v4 v5 : D) : O4 v0 (.int v1) v2 v3 v4 v5 =
  cond (v1 < len v4) (
 cond (v1 < 0) (
 .row []) (
 cond (D.strEq (cl v4 v1 0) v0) (
 .row [.int 1, (.int v1)]) (
 O4 v0 (.int (IntKind.wrap .i64 (v1 + 1))) v2 v3 v4 v5))) (
 .row [.int 1, (.int (-1))]) := gw rfl rfl rfl
theorem X1 (v0 v1 v2 v3 v4 v5 v6 v7 v8 v9 : D) : H5 v0 v1 v2 v3 v4 v5 v6 v7 v8 v9 =
  cond ((sl (KA v0 v1 v2 v3) 0).toInt = 1) (
 cond ((sl (KA v0 v1 v2 v3) 2).toInt = 0) (
 cond ((sl (KA v4 v5 v6 v7) 0).toInt = 1) (
 cond ((sl (KA v4 v5 v6 v7) 2).toInt = 0) (
 cond (24 < (len v8 : Int)) (
 .row [.int 1, (.int 24), (.int 490)]) (
 GT (.int 0) v0 v1 v2 v3 v4 v5 v6 v7 v8 v9)) (
 .row [.int 1, (.int 0), (.int 2)])) (
 .row [])) (
 .row [.int 1, (.int 0), (.int 2)])) (
 .row []) := gw rfl rfl (cQ (cQ (cQ (cQ rfl rfl) rfl) rfl) rfl)
theorem Uh (v0 : Int) (v1 v2 v3 v4 v5 v6 v7 v8 v9 v10 : D) : GT (.int v0) v1 v2 v3 v4 v5 v6 v7 v8 v9 v10 =
  cond (v0 < len v9) (
 cond (v0 < 0) (
 .row []) (
 cond ((sl (KC v1 v2 v3 v4 (cl v9 v0 0)) 0).toInt = 1) (
 cond ((sl (KC v1 v2 v3 v4 (cl v9 v0 0)) 1).toInt < 0) (
 EU (.int v0) (.bool true) (.int 0) v1 v2 v3 v4 v5 v6 v7 v8 v9 v10) (
 cond ((sl (KC v5 v6 v7 v8 (cl v9 v0 1)) 0).toInt = 1) (
 EU (.int v0) (.bool (decide ((sl (KC v5 v6 v7 v8 (cl v9 v0 1)) 1).toInt < 0))) (.int 0) v1 v2 v3 v4 v5 v6 v7 v8 v9 v10) (
 .row []))) (
 .row []))) (
 cond (4 < (len v10 : Int)) (
 .row [.int 1, (.int 4), (.int 491)]) (
 FY (.int 0) v1 v2 v3 v4 v5 v6 v7 v8 v9 v10)) := gw rfl rfl (cL (cL rfl (cQ (cL rfl (cQ rfl rfl)) rfl)) rfl)
theorem T8 (v0 : Int) (v1 : Bool) (v2 : Int) (v3 v4 v5 v6 v7 v8 v9 v10 v11 v12 : D) : EU (.int v0) (.bool v1) (.int v2) v3 v4 v5 v6 v7 v8 v9 v10 v11 v12 =
  cond (v2 < v0) (
 cond (v1) (
 EU (.int v0) (.bool true) (.int (IntKind.wrap .i64 (v2 + 1))) v3 v4 v5 v6 v7 v8 v9 v10 v11 v12) (
 cond (v2 < 0) (
 .row []) (
 cond (v2 < len v11) (
 cond (v0 < 0) (
 .row []) (
 cond (v0 < len v11) (
 EU (.int v0) (.bool (D.strEq (cl v11 v2 0) (cl v11 v0 0))) (.int (IntKind.wrap .i64 (v2 + 1))) v3 v4 v5 v6 v7 v8 v9 v10 v11 v12) (
 .row []))) (
 .row [])))) (
 cond (v1) (
 .row [.int 1, (.int v0), (.int 490)]) (
 GT (.int (IntKind.wrap .i64 (v0 + 1))) v3 v4 v5 v6 v7 v8 v9 v10 v11 v12)) := gw rfl rfl rfl
theorem Us (v0 : Int) (v1 v2 v3 v4 v5 v6 v7 v8 v9 v10 : D) : FY (.int v0) v1 v2 v3 v4 v5 v6 v7 v8 v9 v10 =
  cond (v0 < len v10) (
 cond (v0 < 0) (
 .row []) (
 cond ((sl (Ko v5 v6 v7 v8 (cl v10 v0 0)) 0).toInt = 1) (
 cond ((sl (Ko v5 v6 v7 v8 (cl v10 v0 0)) 1).toInt < 0) (
 De (.int v0) (.bool true) (.int 0) v1 v2 v3 v4 v5 v6 v7 v8 v9 v10 (cl v10 v0 0) (cl v10 v0 1) (cl v10 v0 2)) (
 cond (eqC (cl v10 v0 1) 0 0) (
 cond (1000 < (cl v10 v0 2).toInt) (
 De (.int v0) (.bool true) (.int 0) v1 v2 v3 v4 v5 v6 v7 v8 v9 v10 (cl v10 v0 0) (cl v10 v0 1) (cl v10 v0 2)) (
 De (.int v0) (.bool (decide ((cl v10 v0 2).toInt < (-1000)))) (.int 0) v1 v2 v3 v4 v5 v6 v7 v8 v9 v10 (cl v10 v0 0) (cl v10 v0 1) (cl v10 v0 2))) (
 cond ((sl (Ko v1 v2 v3 v4 (cl v10 v0 1)) 0).toInt = 1) (
 cond ((sl (Ko v1 v2 v3 v4 (cl v10 v0 1)) 1).toInt < 0) (
 De (.int v0) (.bool true) (.int 0) v1 v2 v3 v4 v5 v6 v7 v8 v9 v10 (cl v10 v0 0) (cl v10 v0 1) (cl v10 v0 2)) (
 cond (1000 < (cl v10 v0 2).toInt) (
 De (.int v0) (.bool true) (.int 0) v1 v2 v3 v4 v5 v6 v7 v8 v9 v10 (cl v10 v0 0) (cl v10 v0 1) (cl v10 v0 2)) (
 De (.int v0) (.bool (decide ((cl v10 v0 2).toInt < (-1000)))) (.int 0) v1 v2 v3 v4 v5 v6 v7 v8 v9 v10 (cl v10 v0 0) (cl v10 v0 1) (cl v10 v0 2)))) (
 .row [])))) (
 .row []))) (
 .row [.int 1, (.int 0), (.int 0)]) := gw rfl rfl (cL (cL rfl (cQ (cL rfl (cg rfl (cL rfl rfl) (cQ (cL rfl (cL rfl rfl)) rfl))) rfl)) rfl)
theorem Ud (v0 : Int) (v1 : Bool) (v2 : Int) (v3 v4 v5 v6 v7 v8 v9 v10 v11 v12 v13 v14 : D) (v15 : Int) : De (.int v0) (.bool v1) (.int v2) v3 v4 v5 v6 v7 v8 v9 v10 v11 v12 v13 v14 (.int v15) =
  cond (v2 < v0) (
 cond (v1) (
 De (.int v0) (.bool true) (.int (IntKind.wrap .i64 (v2 + 1))) v3 v4 v5 v6 v7 v8 v9 v10 v11 v12 v13 v14 (.int v15)) (
 cond (v2 < 0) (
 .row []) (
 cond (v2 < len v12) (
 De (.int v0) (.bool (D.strEq (cl v12 v2 0) v13)) (.int (IntKind.wrap .i64 (v2 + 1))) v3 v4 v5 v6 v7 v8 v9 v10 v11 v12 v13 v14 (.int v15)) (
 .row [])))) (
 cond (v1) (
 .row [.int 1, (.int v0), (.int 491)]) (
 FY (.int (IntKind.wrap .i64 (v0 + 1))) v3 v4 v5 v6 v7 v8 v9 v10 v11 v12)) := gw rfl rfl rfl
theorem X8 (v0 v1 v2 v3 v4 v5 v6 v7 v8 v9 v10 v11 v12 v13 v14 v15 : D) : EN v0 v1 v2 v3 v4 v5 v6 v7 v8 v9 v10 v11 v12 v13 v14 v15 =
  cond ((sl (H5 v0 v1 v2 v3 v4 v5 v6 v7 v12 v13) 0).toInt = 1) (
 cond ((sl (H5 v0 v1 v2 v3 v4 v5 v6 v7 v12 v13) 2).toInt = 0) (
 cond ((sl (H5 v4 v5 v6 v7 v8 v9 v10 v11 v14 v15) 0).toInt = 1) (
 cond ((sl (H5 v4 v5 v6 v7 v8 v9 v10 v11 v14 v15) 2).toInt = 0) (
 JI (.int 0) v12 v13 v14 v15 BL (.bool true)) (
 .row [.int 1, BL, (.bool true), BL, (.bool true), (sl (H5 v4 v5 v6 v7 v8 v9 v10 v11 v14 v15) 2)])) (
 .row [])) (
 .row [.int 1, BL, (.bool true), BL, (.bool true), (sl (H5 v0 v1 v2 v3 v4 v5 v6 v7 v12 v13) 2)])) (
 .row []) := gw rfl rfl (cQ (cQ (cQ (cQ rfl rfl) rfl) rfl) rfl)
theorem TT (v0 : Int) (v1 v2 v3 v4 v5 : D) (v6 : Bool) : JI (.int v0) v1 v2 v3 v4 v5 (.bool v6) =
  cond (v0 < len v1) (
 GQ (.int v0) (.int 0) v1 v2 v3 v4 v5 (.bool v6)) (
 Hd (.int 0) v1 v2 v3 v4 v5 (.bool v6) BL (.bool true)) := gw rfl rfl rfl
theorem T9 (v0 v1 : Int) (v2 v3 v4 v5 v6 : D) (v7 : Bool) : GQ (.int v0) (.int v1) v2 v3 v4 v5 v6 (.bool v7) =
  cond (v1 < len v4) (
 cond (v0 < 0) (
 .row []) (
 cond (v0 < len v2) (
 cond (v1 < 0) (
 .row []) (
 cond (D.strEq (cl v2 v0 1) (cl v4 v1 0)) (
 cond ((len v6 : Int) < 1073741824) (
 GQ (.int v0) (.int (IntKind.wrap .i64 (v1 + 1))) v2 v3 v4 v5 (ad v6 (.row [(cl v2 v0 0), (cl v4 v1 1)])) (.bool false)) (
 .row [])) (
 GQ (.int v0) (.int (IntKind.wrap .i64 (v1 + 1))) v2 v3 v4 v5 v6 (.bool v7)))) (
 .row []))) (
 JI (.int (IntKind.wrap .i64 (v0 + 1))) v2 v3 v4 v5 v6 (.bool v7)) := gw rfl rfl (cL (cL rfl (cL (cL rfl (cg rfl (cL rfl rfl) rfl)) rfl)) rfl)
theorem TP (v0 : Int) (v1 v2 v3 v4 v5 : D) (v6 : Bool) (v7 : D) (v8 : Bool) : Hd (.int v0) v1 v2 v3 v4 v5 (.bool v6) v7 (.bool v8) =
  cond (v0 < len v4) (
 cond (v0 < 0) (
 .row []) (
 Ih (.int v0) (.int 0) v1 v2 v3 v4 v5 (.bool v6) v7 (.bool v8) (cl v4 v0 0) (M5 0 0) (cl v4 v0 2))) (
 .row [.int 1, v5, (.bool v6), v7, (.bool v8), (.int 0)]) := gw rfl rfl rfl
theorem T4 (v0 v1 : Int) (v2 v3 v4 v5 v6 : D) (v7 : Bool) (v8 : D) (v9 : Bool) (v10 v11 : D) (v12 : Int) : Ih (.int v0) (.int v1) v2 v3 v4 v5 v6 (.bool v7) v8 (.bool v9) v10 v11 (.int v12) =
  cond (v1 < len v3) (
 cond (v1 < 0) (
 .row []) (
 cond (v0 < 0) (
 .row []) (
 cond (v0 < len v5) (
 cond (D.strEq (cl v3 v1 0) (cl v5 v0 1)) (
 Ih (.int v0) (.int (IntKind.wrap .i64 (v1 + 1))) v2 v3 v4 v5 v6 (.bool v7) v8 (.bool v9) v10 (cl v3 v1 1) (.int (IntKind.wrap .i64 (v12 + (cl v3 v1 2).toInt)))) (
 Ih (.int v0) (.int (IntKind.wrap .i64 (v1 + 1))) v2 v3 v4 v5 v6 (.bool v7) v8 (.bool v9) v10 v11 (.int v12))) (
 .row [])))) (
 cond (v12 < (-1000)) (
 .row [.int 1, BL, (.bool true), BL, (.bool true), (.int 3)]) (
 cond (1000 < v12) (
 .row [.int 1, BL, (.bool true), BL, (.bool true), (.int 3)]) (
 cond ((len v8 : Int) < 1073741824) (
 Hd (.int (IntKind.wrap .i64 (v0 + 1))) v2 v3 v4 v5 v6 (.bool v7) (ad v8 (.row [v10, v11, (.int v12)])) (.bool false)) (
 .row [])))) := gw rfl rfl (cL rfl (cL rfl (cL rfl (cL rfl rfl))))
theorem WV (v0 : D) (v1 : Bool) (v2 : D) (v3 : Bool) (v4 : D) (v5 : Bool) (v6 : D) (v7 : Bool) : OS v0 (.bool v1) v2 (.bool v3) v4 (.bool v5) v6 (.bool v7) =
  cond ((len v0 : Int) = (len v4 : Int)) (
 cond ((len v2 : Int) = (len v6 : Int)) (
 PA (.int 0) v0 v2 v4 v6 (.bool v1) (.bool v3) (.bool v5) (.bool v7)) (
 .row [.int 1, (.bool false)])) (
 .row [.int 1, (.bool false)]) := gw rfl rfl (cQ (cQ rfl rfl) rfl)
theorem Ul (v0 : Int) (v1 v2 v3 v4 : D) (v5 v6 v7 v8 : Bool) : PA (.int v0) v1 v2 v3 v4 (.bool v5) (.bool v6) (.bool v7) (.bool v8) =
  cond (v0 < len v1) (
 cond (v0 < 0) (
 .row []) (
 cond (v0 < len v3) (
 cond ((D.strEq (cl v1 v0 0) (cl v3 v0 0) && D.strEq (cl v1 v0 1) (cl v3 v0 1))) (
 PA (.int (IntKind.wrap .i64 (v0 + 1))) v1 v2 v3 v4 (.bool v5) (.bool v6) (.bool v7) (.bool v8)) (
 .row [.int 1, (.bool false)])) (
 .row []))) (
 Ph (.int 0) v1 v2 v3 v4 (.bool v5) (.bool v6) (.bool v7) (.bool v8)) := gw rfl rfl rfl
theorem T3 (v0 : Int) (v1 v2 v3 v4 : D) (v5 v6 v7 v8 : Bool) : Ph (.int v0) v1 v2 v3 v4 (.bool v5) (.bool v6) (.bool v7) (.bool v8) =
  cond (v0 < len v2) (
 cond (v0 < 0) (
 .row []) (
 cond (v0 < len v4) (
 cond ((D.strEq (cl v2 v0 0) (cl v4 v0 0) && (D.strEq (cl v2 v0 1) (cl v4 v0 1) && decide ((cl v2 v0 2).toInt = (cl v4 v0 2).toInt)))) (
 Ph (.int (IntKind.wrap .i64 (v0 + 1))) v1 v2 v3 v4 (.bool v5) (.bool v6) (.bool v7) (.bool v8)) (
 .row [.int 1, (.bool false)])) (
 .row []))) (
 .row [.int 1, (.bool true)]) := gw rfl rfl (cL (cL rfl (cL (cg (aE rfl (aE rfl (qE rfl rfl))) rfl rfl) rfl)) rfl)
theorem W1 (v0 v1 v2 v3 v4 v5 v6 v7 v8 v9 v10 v11 v12 v13 v14 v15 : D) : Ug v0 v1 v2 v3 v4 v5 v6 v7 v8 v9 v10 v11 v12 v13 v14 v15 =
  cond ((sl (MA v0 v1 v2 v3) 0).toInt = 1) (
 cond ((sl (MA v0 v1 v2 v3) 1).toBool) (
 cond ((sl (MA v4 v5 v6 v7) 0).toInt = 1) (
 cond ((sl (MA v4 v5 v6 v7) 1).toBool) (
 cond ((sl (MA v8 v9 v10 v11) 0).toInt = 1) (
 cond ((sl (MA v8 v9 v10 v11) 1).toBool) (
 cond (10 < (len v12 : Int)) (
 cond ((sl (Kh) 0).toInt = 1) (
 .row [.int 1, (.bool true)]) (
 .row [])) (
 cond (10 < (len v13 : Int)) (
 cond ((sl (Kh) 0).toInt = 1) (
 .row [.int 1, (.bool true)]) (
 .row [])) (
 cond (10 < (len v14 : Int)) (
 cond ((sl (Kh) 0).toInt = 1) (
 .row [.int 1, (.bool true)]) (
 .row [])) (
 cond (10 < (len v15 : Int)) (
 cond ((sl (Kh) 0).toInt = 1) (
 .row [.int 1, (.bool true)]) (
 .row [])) (
 cond ((sl (EQ v0 v1 v2 v3 v4 v5 v6 v7 v8 v9 v10 v11 v12 v13 v14 v15) 0).toInt = 1) (
 cond ((sl (EN v0 v1 v2 v3 v4 v5 v6 v7 v8 v9 v10 v11 v12 v13 v14 v15) 0).toInt = 1) (
 cond ((sl (OS (sl (EQ v0 v1 v2 v3 v4 v5 v6 v7 v8 v9 v10 v11 v12 v13 v14 v15) 1) (sl (EQ v0 v1 v2 v3 v4 v5 v6 v7 v8 v9 v10 v11 v12 v13 v14 v15) 2) (sl (EQ v0 v1 v2 v3 v4 v5 v6 v7 v8 v9 v10 v11 v12 v13 v14 v15) 3) (sl (EQ v0 v1 v2 v3 v4 v5 v6 v7 v8 v9 v10 v11 v12 v13 v14 v15) 4) (sl (EN v0 v1 v2 v3 v4 v5 v6 v7 v8 v9 v10 v11 v12 v13 v14 v15) 1) (sl (EN v0 v1 v2 v3 v4 v5 v6 v7 v8 v9 v10 v11 v12 v13 v14 v15) 2) (sl (EN v0 v1 v2 v3 v4 v5 v6 v7 v8 v9 v10 v11 v12 v13 v14 v15) 3) (sl (EN v0 v1 v2 v3 v4 v5 v6 v7 v8 v9 v10 v11 v12 v13 v14 v15) 4)) 0).toInt = 1) (
 cond ((sl (OS (sl (EQ v0 v1 v2 v3 v4 v5 v6 v7 v8 v9 v10 v11 v12 v13 v14 v15) 1) (sl (EQ v0 v1 v2 v3 v4 v5 v6 v7 v8 v9 v10 v11 v12 v13 v14 v15) 2) (sl (EQ v0 v1 v2 v3 v4 v5 v6 v7 v8 v9 v10 v11 v12 v13 v14 v15) 3) (sl (EQ v0 v1 v2 v3 v4 v5 v6 v7 v8 v9 v10 v11 v12 v13 v14 v15) 4) (sl (EN v0 v1 v2 v3 v4 v5 v6 v7 v8 v9 v10 v11 v12 v13 v14 v15) 1) (sl (EN v0 v1 v2 v3 v4 v5 v6 v7 v8 v9 v10 v11 v12 v13 v14 v15) 2) (sl (EN v0 v1 v2 v3 v4 v5 v6 v7 v8 v9 v10 v11 v12 v13 v14 v15) 3) (sl (EN v0 v1 v2 v3 v4 v5 v6 v7 v8 v9 v10 v11 v12 v13 v14 v15) 4)) 1).toBool) (
 cond ((sl (EQ v0 v1 v2 v3 v4 v5 v6 v7 v8 v9 v10 v11 v12 v13 v14 v15) 5).toInt = (sl (EN v0 v1 v2 v3 v4 v5 v6 v7 v8 v9 v10 v11 v12 v13 v14 v15) 5).toInt) (
 cond ((sl (Kh) 0).toInt = 1) (
 .row [.int 1, (.bool true)]) (
 .row [])) (
 .row [.int 1, (.bool false)])) (
 .row [.int 1, (.bool false)])) (
 .row [])) (
 .row [])) (
 .row [])))))) (
 cond ((sl (Kh) 0).toInt = 1) (
 .row [.int 1, (.bool true)]) (
 .row []))) (
 .row [])) (
 cond ((sl (Kh) 0).toInt = 1) (
 .row [.int 1, (.bool true)]) (
 .row []))) (
 .row [])) (
 cond ((sl (Kh) 0).toInt = 1) (
 .row [.int 1, (.bool true)]) (
 .row []))) (
 .row []) := gw rfl rfl (cQ (cg rfl (cQ (cg rfl (cQ (cg rfl (cL (cQ rfl rfl) (cL (cQ rfl rfl) (cL (cQ rfl rfl) (cL (cQ rfl rfl) (cQ (cQ (cQ (cg rfl (cQ (cQ rfl rfl) rfl) rfl) rfl) rfl) rfl))))) (cQ rfl rfl)) rfl) (cQ rfl rfl)) rfl) (cQ rfl rfl)) rfl)
end
end Uc
namespace Uc
open Go Go.AE
theorem KY (v : D) (i : Int) : 0 ≤ sAt v i ∧ sAt v i < 256 := by
 unfold sAt;have := ((v.toStr.data.toList[i.toNat]?).getD 0).toNat_lt;omega
theorem Jw {v : D} : len (Mj v) = Bq v := by
 show (List.map _ _).length = _;simp [Bq]
theorem Pd {v : D} {i : Nat} (h : i < Bq v) : (cl (Mj v) i 0).toInt = sAt v i := by
 unfold cl sAt Mj;have h' : i < v.toStr.data.toList.length := h;simp [D.rows, List.getD_eq_getElem?_getD, List.getElem?_eq_getElem h', D.cells, D.toInt]
theorem Pp {x : Int} (h0 : 0 ≤ x) (h1 : x < 256) : IntKind.wrap .u8 x = x := by
 simp only [IntKind.wrap, IntKind.bits, IntKind.signed];have := Int.emod_eq_of_lt h0 h1
 simp_all
section
variable [Au]
theorem KB {v : D} (hs : Bq v ≤ 32) : ∀ (k i : Nat), i + k = Bq v → 1 ≤ i → ∃ b, Np (Mj v) (.int (Bq v : Nat)) (.int i) = .row [.int 1, .bool b] ∧ H4 v (.int i) = .row [.int 1, .bool b]
 | 0, i, hi, h1 => by
  refine ⟨true, ?_, ?_⟩
  ·rw [Vg, ifF (by omega)]
  ·rw [QS, ifF (by omega)]
 | k + 1, i, hi, h1 => by
  obtain ⟨b, q1, q2⟩ := KB hs k (i + 1) (by omega) (by omega)
  have hr := KY v i;have hc := Pd (v := v) (i := i) (by omega)
  have A := Vg (Mj v) (Bq v : Nat) (i : Int);have B := QS v (i : Int);rw [hc, Pp hr.1 hr.2, Jw, C2 (by omega) (by omega), show (i : Int) + 1 = ((i + 1 : Nat) : Int) by omega, q1, ifT (by omega), ifF (by omega), ifT (by omega)] at A
  rw [C2 (by omega) (by omega), show (i : Int) + 1 = ((i + 1 : Nat) : Int) by omega, q2, ifT (by omega), ifF (by omega)] at B
  rw [A, B];have hi0 : decide ((i : Int) = 0) = false := decide_eq_false (by omega)
  rw [hi0];simp only [cond_false];generalize sAt v i = c;by_cases c1 : c < 97
  ·simp only [ifT c1];by_cases c2 : c < 65
   ·simp only [ifT c2];by_cases c3 : c < 48
    ·simp only [ifT c3]; exact ⟨_, rfl, rfl⟩
    ·simp only [ifF c3];by_cases c4 : 57 < c
     ·simp only [ifT c4]; exact ⟨_, rfl, rfl⟩
     ·simp only [ifF c4]; exact ⟨_, rfl, rfl⟩
   ·simp only [ifF c2];by_cases c3 : 90 < c
    ·simp only [ifT c3];by_cases c4 : c = 95
     ·simp only [ifT c4]; exact ⟨_, rfl, rfl⟩
     ·simp only [ifF c4]; exact ⟨_, rfl, rfl⟩
    ·simp only [ifF c3]; exact ⟨_, rfl, rfl⟩
  ·simp only [ifF c1];by_cases c2 : 122 < c
   ·simp only [ifT c2]; exact ⟨_, by cases decide ((i : Int) = 0) <;> rfl, rfl⟩
   ·simp only [ifF c2]; exact ⟨_, rfl, rfl⟩
theorem O2 (v : D) : ∃ b, EK v = .row [.int 1, .bool b] ∧ CH v = .row [.int 1, .bool b] := by
 rw [Zj, Xk];by_cases c1 : (Bq v : Int) < 1
 ·simp only [ifT c1]; exact ⟨_, rfl, rfl⟩
 simp only [ifF c1];by_cases c2 : 32 < (Bq v : Int)
 ·simp only [ifT c2]; exact ⟨_, rfl, rfl⟩
 simp only [ifF c2];obtain ⟨b, q1, q2⟩ := KB (v := v) (by omega) (Bq v - 1) 1 (by omega) (Nat.le_refl _)
 have hr := KY v (0 : Nat);have hc := Pd (v := v) (i := 0) (by omega)
 have A := Vg (Mj v) (Bq v : Nat) ((0 : Nat) : Int);have B := QS v ((0 : Nat) : Int);rw [hc, Pp hr.1 hr.2, Jw, C2 (by omega) (by omega), show ((0 : Nat) : Int) + 1 = ((1 : Nat) : Int) by omega, q1, ifT (by omega), ifF (by omega), ifT (by omega)] at A
 rw [C2 (by omega) (by omega), show ((0 : Nat) : Int) + 1 = ((1 : Nat) : Int) by omega, q2, ifT (by omega), ifF (by omega)] at B
 have z : ((0 : Nat) : Int) = 0 := rfl;rw [z] at A B hr;rw [Jw, A, B];generalize sAt v 0 = c;have hi0 : decide ((0 : Int) = 0) = true := rfl;rw [hi0];simp only [cond_true];by_cases c3 : c = 95
 ·subst c3;exact ⟨false, rfl, rfl⟩
 simp only [ifF c3];by_cases c4 : c < 97
 ·simp only [ifT c4];by_cases c5 : c < 65
  ·simp only [ifT c5];by_cases c6 : c < 48
   ·simp only [ifT c6]; exact ⟨_, rfl, rfl⟩
   ·simp only [ifF c6];by_cases c7 : 57 < c
    ·simp only [ifT c7]; exact ⟨_, rfl, rfl⟩
    ·simp only [ifF c7]; exact ⟨_, rfl, rfl⟩
  ·have c6 : ¬ c < 48 := by omega
   have c7 : 57 < c := by omega
   simp only [ifF c5, ifF c6, ifT c7];by_cases c8 : 90 < c
   ·simp only [ifT c8]; exact ⟨_, rfl, rfl⟩
   ·simp only [ifF c8]; exact ⟨_, rfl, rfl⟩
 ·have c6 : ¬ c < 48 := by omega
  have c7 : 57 < c := by omega
  simp only [ifF c4, ifF c6, ifT c7];by_cases c5 : 122 < c
  ·simp only [ifT c5]; exact ⟨_, rfl, rfl⟩
  ·simp only [ifF c5]; exact ⟨_, rfl, rfl⟩
end
end Uc
namespace Uc
open Go Go.AE
def fd (l key : D) : Int := fdG (fun j => D.strEq (cl l j 0) key) (len l) 0
theorem FP {l key : D} : fd l key < len l := by
 have := Js (p := fun j => D.strEq (cl l j 0) key) (k := len l) (i := 0)
 unfold fd; omega
theorem PG {l : D} {i : Nat} (h : i < len l) : 0 ≤ fd l (cl l i 0) ∧ fd l (cl l i 0) ≤ i := L4 (p := fun j => D.strEq (cl l j 0) (cl l i 0)) (Nat.zero_le _) (by omega) C0
theorem Up {l key : D} (h : 0 ≤ fd l key) : D.strEq (cl l (fd l key) 0) key = true := by
 have := Rg (p := fun j => D.strEq (cl l j 0) key) (k := len l) (i := 0) h
 have e : ((fd l key).toNat : Int) = fd l key := by omega
 rw [← e];exact this
theorem BH {F : Int → D} {l key : D} (hn : len l < 4611686018427387904) (h : ∀ i : Int, F i = cond (decide (i < (len l : Int))) (cond (decide (i < 0)) (.row []) (cond (D.strEq (cl l i 0) key) (.row [.int 1, .int i]) (F (IntKind.wrap .i64 (i + 1))))) (.row [.int 1, .int (-1)])) : F 0 = .row [.int 1, .int (fd l key)] := by
 refine find (F := fun i => F (i : Int)) (n := len l) (bad := fun j => D.strEq (cl l j 0) key) (fun j hj => ?_) ?_
 ·show F (j : Int) = _;rw [h, ifT (by omega), ifF (by omega), By (by omega)]
 ·show F (len l : Int) = _;rw [h, ifF (by omega)]
section
variable [Au]
variable {v0 v1 v2 v3 v4 v5 : D}
theorem T1 (hn : len v0 < 4611686018427387904) (k : D) : RX v0 k = .row [.int 1, .int (fd v0 k)] := (Y7 ..).trans (BH (F := fun i => TH v0 (.int i) k) hn fun i => YO ..)
theorem Uf (hn : len v0 < 4611686018427387904) (k : D) : Hv v0 k = .row [.int 1, .int (fd v0 k)] := (ZE ..).trans (BH (F := fun i => SA v0 (.int i) k) hn fun i => Y4 ..)
theorem Uq (hn : len v0 < 4611686018427387904) (k : D) : PO v0 k = .row [.int 1, .int (fd v0 k)] := (YP ..).trans (BH (F := fun i => Su v0 (.int i) k) hn fun i => Y6 ..)
theorem Se (hn : len v0 < 4611686018427387904) (k : D) : Ky v0 k = .row [.int 1, .int (fd v0 k)] := (X6 ..).trans (BH (F := fun i => Pr v0 (.int i) k) hn fun i => V6 ..)
theorem Ru (hn : len v2 < 4611686018427387904) (k : D) : GV v0 v1 v2 v3 k = .row [.int 1, .int (fd v2 k)] := (Xr ..).trans (BH (F := fun i => O1 k (.int i) v0 v1 v2 v3) hn fun i => Xf ..)
theorem QQ (hn : len v1 < 4611686018427387904) (k : D) : FT v0 v1 v2 v3 k = .row [.int 1, .int (fd v1 k)] := (Ws ..).trans (BH (F := fun i => OH k (.int i) v0 v1 v2 v3) hn fun i => V1 ..)
theorem Sd (hn : len v1 < 4611686018427387904) (k : D) : KC v0 v1 v2 v3 k = .row [.int 1, .int (fd v1 k)] := (XO ..).trans (BH (F := fun i => Pb k (.int i) v0 v1 v2 v3) hn fun i => Xu ..)
theorem Si (hn : len v2 < 4611686018427387904) (k : D) : Ko v0 v1 v2 v3 k = .row [.int 1, .int (fd v2 k)] := (XL ..).trans (BH (F := fun i => O4 k (.int i) v0 v1 v2 v3) hn fun i => XD ..)
def nm (v : D) : Bool := (sl (CH v) 1).toBool
theorem PE (v : D) : EK v = .row [.int 1, .bool (nm v)] := by
 obtain ⟨b, q1, q2⟩ := O2 v;rw [q1];unfold nm;rw [q2];rfl
theorem LI (v : D) : CH v = .row [.int 1, .bool (nm v)] := by
 obtain ⟨b, q1, q2⟩ := O2 v;unfold nm;rw [q2];rfl
def JL (v2 : D) (i : Nat) : Bool := !nm (cl v2 i 0) || decide (fd v2 (cl v2 i 0) < i) || decide ((cl v2 i 1).toInt < 1) || decide (1000 < (cl v2 i 1).toInt)
def I6 (v1 : D) (i : Nat) : Bool := !nm (cl v1 i 0) || decide (fd v1 (cl v1 i 0) < i) || decide ((cl v1 i 2).toInt < 0) || decide (1048576 < (cl v1 i 2).toInt)
theorem T7 (hn : len v2 < 1000) (v0 v1 v3 : D) : Qn (.int (len v2 : Nat)) (.int 0) (.int 4) v0 v1 v2 v3 = .row [.int 1, .int (cond (decide (4 < (len v2 : Int))) 4 (fdG (JL v2) (len v2) 0))] := by
 rw [Y8, ifF (by omega)]
 by_cases c : 4 < (len v2 : Int)
 ·rw [ifT c, ifT c]
 rw [ifF c, ifF c];refine find (F := fun i => P3 (.int (len v2 : Nat)) (.int (i : Nat)) v0 v1 v2 v3) (n := len v2) (bad := JL v2) (fun j hj => ?_) ?_
 ·show P3 _ (.int (j : Nat)) _ _ _ _ = _;rw [VN, ifT (by omega), ifF (by omega), ifT (by omega)]
  simp only [PE, T1 (v0 := v2) (by omega), AY, AZ, Aw, AA, decide_true, cond_true, By (i := j) (by omega)]
  unfold JL;cases nm (cl v2 j 0) <;> cases decide (fd v2 (cl v2 j 0) < j) <;> cases decide ((cl v2 j 1).toInt < 1) <;> cases decide (1000 < (cl v2 j 1).toInt) <;> rfl
 ·show P3 _ (.int (len v2 : Nat)) _ _ _ _ = _;rw [VN, ifF (by omega)]
theorem Ue (hn : len v1 < 1000) (v0 v2 v3 : D) : Qb (.int (len v1 : Nat)) (.int 1) (.int 24) v0 v1 v2 v3 = .row [.int 1, .int (cond (decide ((len v1 : Int) < 1)) 0 (cond (decide (24 < (len v1 : Int))) 24 (fdG (I6 v1) (len v1) 0)))] := by
 rw [Zq];by_cases c : (len v1 : Int) < 1
 ·rw [ifT c, ifT c]
 rw [ifF c, ifF c];by_cases c : 24 < (len v1 : Int)
 ·rw [ifT c, ifT c]
 rw [ifF c, ifF c];refine find (F := fun i => Qu (.int (len v1 : Nat)) (.int (i : Nat)) v0 v1 v2 v3) (n := len v1) (bad := I6 v1) (fun j hj => ?_) ?_
 ·show Qu _ (.int (j : Nat)) _ _ _ _ = _;rw [VK, ifT (by omega), ifF (by omega), ifT (by omega)]
  simp only [PE, Uf (v0 := v1) (by omega), AY, AZ, Aw, AA, decide_true, cond_true, By (i := j) (by omega)]
  unfold I6;cases nm (cl v1 j 0) <;> cases decide (fd v1 (cl v1 j 0) < j) <;> cases decide ((cl v1 j 2).toInt < 0) <;> cases decide (1048576 < (cl v1 j 2).toInt) <;> rfl
 ·show Qu _ (.int (len v1 : Nat)) _ _ _ _ = _;rw [VK, ifF (by omega)]
end
end Uc
namespace Uc
open Go Go.AE
def Dc (v3 : D) (i j : Nat) : Bool := D.strEq (cl v3 j 0) (cl v3 i 0) && (D.strEq (cl v3 j 1) (cl v3 i 1) && (decide ((cl v3 j 2).toInt = (cl v3 i 2).toInt) && (D.strEq (cl v3 j 3) (cl v3 i 3) && (D.strEq (cl v3 j 4) (cl v3 i 4) && (D.strEq (cl v3 j 5) (cl v3 i 5) && (decide ((cl v3 j 6).toInt = (cl v3 i 6).toInt) && (decide ((cl v3 j 7).toInt = (cl v3 i 7).toInt) && decide ((cl v3 j 8).toInt = (cl v3 i 8).toInt))))))))
def dup (v3 : D) (i : Nat) : Bool := !decide (fdG (Dc v3 i) i 0 < 0)
def Vd (v2 v3 : D) (i : Nat) : Bool := cond (eqC (cl v3 i 5) 0 0) (cond (decide ((cl v3 i 6).toInt = 0)) (cond (decide ((cl v3 i 7).toInt = 0)) (cond (decide ((cl v3 i 8).toInt = 0)) false true) true) true)
 (cond (decide (fd v2 (cl v3 i 5) < 0)) true (cond (decide ((cl v3 i 6).toInt < 0)) true (cond (decide ((cl v3 i 7).toInt < (cl v3 i 6).toInt)) true (cond (decide ((cl v3 i 8).toInt < (-1000))) true (cond (decide (1000 < (cl v3 i 8).toInt)) true
  (cond (decide ((cl v2 (fd v2 (cl v3 i 5)) 1).toInt < (cl v3 i 7).toInt)) true (cond (decide (IntKind.wrap .i64 ((cl v3 i 6).toInt + (cl v3 i 8).toInt) < 0)) true (cond (decide ((cl v2 (fd v2 (cl v3 i 5)) 1).toInt < IntKind.wrap .i64 ((cl v3 i 7).toInt + (cl v3 i 8).toInt))) true false))))))))
def Cd (v3 : D) : Prop := ∀ i : Nat, i < len v3 → (∃ n, cl v3 i 2 = .int n) ∧ (∃ n, cl v3 i 6 = .int n) ∧ (∃ n, cl v3 i 7 = .int n) ∧ (∃ n, cl v3 i 8 = .int n) ∧ Bq (cl v3 i 3) < 4611686018427387904 ∧ Bq (cl v3 i 4) < 4611686018427387904
section
variable [Au]
def NP (v0 v1 v3 : D) (i : Nat) : Bool := cond (decide ((cl v3 i 2).toInt = 1)) (cond (nm (cl v3 i 3)) (cond (nm (cl v3 i 4)) (D.strEq (cl v3 i 4) v0) true) true)
 (cond (decide ((cl v3 i 2).toInt = 2)) (cond (nm (cl v3 i 3)) (cond (nm (cl v3 i 4)) (D.strEq (cl v3 i 4) v0) true) true)
 (cond (decide ((cl v3 i 2).toInt = 3)) (cond (eqC (cl v3 i 3) 0 0) (cond (eqC (cl v3 i 4) 0 0) (!decide (0 < (cl v1 (fd v1 (cl v3 i 0)) 2).toInt)) true) true)
 (cond (decide ((cl v3 i 2).toInt = 4)) (cond (eqC (cl v3 i 3) 0 0) (cond (eqC (cl v3 i 4) 0 0) false true) true) true)))
def GJ (v0 v1 v2 v3 : D) (i : Nat) : Bool := decide (fd v1 (cl v3 i 0) < 0) || (decide (fd v1 (cl v3 i 1) < 0) || (dup v3 i || (NP v0 v1 v3 i || Vd v2 v3 i)))
variable {v0 v1 v2 v3 : D}
theorem WB (hs : Cd v3) (hn : len v3 < 1000) {i : Nat} (hi : i < len v3) : ∃ n : Int, Vl (sb v3 0 i) (cl v3 i 0) (cl v3 i 1) (cl v3 i 2) (cl v3 i 3) (cl v3 i 4) (cl v3 i 5) (cl v3 i 6) (cl v3 i 7) (cl v3 i 8) = .row [.int 1, .int n] ∧ decide (n < 0) = !dup v3 i := by
 obtain ⟨⟨n2, h2⟩, ⟨n6, h6⟩, ⟨n7, h7⟩, ⟨n8, h8⟩, _⟩ := hs i hi;refine ⟨fdG (Dc v3 i) i 0, ?_, by unfold dup; rw [Bool.not_not]⟩
 have hl : len (sb v3 0 i) = i := by
  have := Vn (a := v3) (lo := 0) (hi := (i : Int)) (by omega) (by omega)
  omega
 rw [h2, h6, h7, h8, ZP];refine find (F := fun j => Qs (sb v3 0 i) (.int (j : Nat)) (cl v3 i 0) (cl v3 i 1) (.int n2) (cl v3 i 3) (cl v3 i 4) (cl v3 i 5) (.int n6) (.int n7) (.int n8)) (n := i) (bad := Dc v3 i) (fun j hj => ?_) ?_
 ·show Qs (sb v3 0 i) (.int (j : Nat)) (cl v3 i 0) (cl v3 i 1) (.int n2) (cl v3 i 3) (cl v3 i 4) (cl v3 i 5) (.int n6) (.int n7) (.int n8) = _;rw [Wb, hl, ifT (by omega), ifF (by omega), By (by omega)]
  simp only [VU (a := v3) (i := i) (j := j) (by omega) hj]
  have e : (D.strEq (cl v3 i 0) (cl v3 j 0) && (D.strEq (cl v3 i 1) (cl v3 j 1) && (decide (n2 = (cl v3 j 2).toInt) && (D.strEq (cl v3 i 3) (cl v3 j 3) && (D.strEq (cl v3 i 4) (cl v3 j 4) && (D.strEq (cl v3 i 5) (cl v3 j 5) && (decide (n6 = (cl v3 j 6).toInt) && (decide (n7 = (cl v3 j 7).toInt) && decide (n8 = (cl v3 j 8).toInt))))))))) = Dc v3 i j := by
   unfold Dc;rw [h2, h6, h7, h8];simp only [Aw];rw [BW (a := cl v3 i 0), BW (a := cl v3 i 1), BW (a := cl v3 i 3), BW (a := cl v3 i 4), BW (a := cl v3 i 5)];rw [OZ (x := n2), OZ (x := n6), OZ (x := n7), OZ (x := n8)];rfl
  rw [e]
 ·show Qs (sb v3 0 i) (.int (i : Nat)) (cl v3 i 0) (cl v3 i 1) (.int n2) (cl v3 i 3) (cl v3 i 4) (cl v3 i 5) (.int n6) (.int n7) (.int n8) = _;rw [Wb, hl, ifF (by omega)]
theorem TM (hs : Cd v3) (hn : len v3 < 1000) (hn1 : len v1 < 1000) (hn2 : len v2 < 1000) {i : Nat} (hi : i < len v3) : Gw (.int (len v3 : Nat)) (.int (i : Nat)) v0 v1 v2 v3 = cond (GJ v0 v1 v2 v3 i) (.row [.int 1, .int (i : Nat)]) (Gw (.int (len v3 : Nat)) (.int (i + 1 : Nat)) v0 v1 v2 v3) := by
 obtain ⟨n, h6, hd⟩ := WB hs hn hi;obtain ⟨_, _, _, _, h3, h4⟩ := hs i hi;rw [VS (h0 := rfl) (h1 := rfl) (h2 := rfl), ifT (by omega), ifF (by omega), ifT (by omega)]
 have a1 := FP (l := v1) (key := cl v3 i 0);have a2 := FP (l := v2) (key := cl v3 i 5);have d1 : decide ((Bq (cl v3 i 3) : Int) < 4611686018427387904) = true := decide_eq_true (by omega)
 have d2 : decide ((Bq (cl v3 i 4) : Int) < 4611686018427387904) = true := decide_eq_true (by omega)
 have d3 : decide ((len v3 : Int) < i) = false := decide_eq_false (by omega)
 simp only [h6, hd, PE, T1 (v0 := v2) (by omega), Uf (v0 := v1) (by omega), AY, AZ, Aw, AA, decide_true, cond_true, cond_false, By (i := i) (by omega), decide_eq_true a1, decide_eq_true a2, d1, d2, d3, Oi]
 unfold GJ NP;generalize Gw (.int (len v3 : Nat)) (.int (i + 1 : Nat)) v0 v1 v2 v3 = X;generalize hY : (D.row [.int 1, .int (i : Nat)]) = Y;cases decide (fd v1 (cl v3 i 0) < 0) <;> cases decide (fd v1 (cl v3 i 1) < 0) <;> cases dup v3 i <;> simp only [cond_true, cond_false, Bool.true_or, Bool.false_or, Bool.not_true, Bool.not_false, Bool.cond_self]
 unfold Vd;by_cases k1 : (cl v3 i 2).toInt = 1
 ·simp only [ifT k1];cases nm (cl v3 i 3) <;> cases nm (cl v3 i 4) <;> cases D.strEq (cl v3 i 4) v0 <;> simp only [cond_true, cond_false, Bool.true_or, Bool.false_or]
  repeat' (refine IZ (fun h => ?_) (fun h => ?_)) <;> simp only [*, cond_true, cond_false]
 simp only [ifF k1];by_cases k2 : (cl v3 i 2).toInt = 2
 ·simp only [ifT k2];cases nm (cl v3 i 3) <;> cases nm (cl v3 i 4) <;> cases D.strEq (cl v3 i 4) v0 <;> simp only [cond_true, cond_false, Bool.true_or, Bool.false_or]
  repeat' (refine IZ (fun h => ?_) (fun h => ?_)) <;> simp only [*, cond_true, cond_false]
 simp only [ifF k2];by_cases k3 : (cl v3 i 2).toInt = 3
 ·simp only [ifT k3];cases eqC (cl v3 i 3) 0 0 <;> cases eqC (cl v3 i 4) 0 0 <;> cases decide (0 < (cl v1 (fd v1 (cl v3 i 0)) 2).toInt) <;> simp only [cond_true, cond_false, Bool.true_or, Bool.false_or, Bool.and_true, Bool.true_and, Bool.and_false, Bool.false_and, Bool.not_true, Bool.not_false]
  repeat' (refine IZ (fun h => ?_) (fun h => ?_)) <;> simp only [*, cond_true, cond_false]
 simp only [ifF k3];by_cases k4 : (cl v3 i 2).toInt = 4
 ·simp only [ifT k4];cases eqC (cl v3 i 3) 0 0 <;> cases eqC (cl v3 i 4) 0 0 <;> simp only [cond_true, cond_false, Bool.true_or, Bool.false_or, Bool.and_true, Bool.true_and, Bool.and_false, Bool.false_and, Bool.not_true, Bool.not_false]
  repeat' (refine IZ (fun h => ?_) (fun h => ?_)) <;> simp only [*, cond_true, cond_false]
 simp only [ifF k4, cond_true, Bool.true_or]
theorem TQ (hs : Cd v3) (hn : len v3 < 1000) (hn1 : len v1 < 1000) (hn2 : len v2 < 1000) (v0 : D) : Qw (.int (len v3 : Nat)) (.int 0) (.int 80) v0 v1 v2 v3 = .row [.int 1, .int (cond (decide (80 < (len v3 : Int))) 80 (fdG (GJ v0 v1 v2 v3) (len v3) 0))] := by
 rw [ZS, ifF (by omega)]
 by_cases c : 80 < (len v3 : Int)
 ·rw [ifT c, ifT c]
 rw [ifF c, ifF c];refine find (F := fun i => Gw (.int (len v3 : Nat)) (.int (i : Nat)) v0 v1 v2 v3) (n := len v3) (bad := GJ v0 v1 v2 v3) (fun j hj => TM hs hn hn1 hn2 hj) ?_
 show Gw _ (.int (len v3 : Nat)) _ _ _ _ = _;rw [VS (h0 := rfl) (h1 := rfl) (h2 := rfl), ifF (by omega)]
theorem Sp (hs : Cd v3) (hn : len v3 < 1000) (hn1 : len v1 < 1000) (hn2 : len v2 < 1000) {i : Nat} (hi : i < len v3) (hf : 0 ≤ fd v1 (cl v3 i 0)) : EO (.int (i : Nat)) (.int (fd v1 (cl v3 i 0))) (.int 0) v0 v1 v2 v3 (cl v3 i 0) (cl v3 i 1) (cl v3 i 2) (cl v3 i 3) (cl v3 i 4) (cl v3 i 5) (cl v3 i 6) (cl v3 i 7) (cl v3 i 8) = .row [.int 1, .bool (!(dup v3 i || NP v0 v1 v3 i))] := by
 obtain ⟨⟨n2, h2⟩, ⟨n6, h6⟩, ⟨n7, h7⟩, ⟨n8, h8⟩, h3, h4⟩ := hs i hi
 have L := Gl (F := fun j => EO (.int (i : Nat)) (.int (fd v1 (cl v3 i 0))) (.int (j : Nat)) v0 v1 v2 v3 (cl v3 i 0) (cl v3 i 1) (cl v3 i 2) (cl v3 i 3) (cl v3 i 4) (cl v3 i 5) (cl v3 i 6) (cl v3 i 7) (cl v3 i 8)) (n := i) (bad := Dc v3 i) (B := fun _ => .row [.int 1, .bool false]) (fun j hj => by
  show EO (.int (i : Nat)) (.int (fd v1 (cl v3 i 0))) (.int (j : Nat)) v0 v1 v2 v3 (cl v3 i 0) (cl v3 i 1) (cl v3 i 2) (cl v3 i 3) (cl v3 i 4) (cl v3 i 5) (cl v3 i 6) (cl v3 i 7) (cl v3 i 8) = cond _ _ (EO (.int (i : Nat)) (.int (fd v1 (cl v3 i 0))) (.int (j + 1 : Nat)) v0 v1 v2 v3 (cl v3 i 0) (cl v3 i 1) (cl v3 i 2) (cl v3 i 3) (cl v3 i 4) (cl v3 i 5) (cl v3 i 6) (cl v3 i 7) (cl v3 i 8))
  have e : (D.strEq (cl v3 j 0) (cl v3 i 0) && (D.strEq (cl v3 j 1) (cl v3 i 1) && (decide ((cl v3 j 2).toInt = n2) && (D.strEq (cl v3 j 3) (cl v3 i 3) && (D.strEq (cl v3 j 4) (cl v3 i 4) && (D.strEq (cl v3 j 5) (cl v3 i 5) && (decide ((cl v3 j 6).toInt = n6) && (decide ((cl v3 j 7).toInt = n7) && decide ((cl v3 j 8).toInt = n8))))))))) = Dc v3 i j := by
   unfold Dc;rw [h2, h6, h7, h8];rfl
  rw [← e, h2, h6, h7, h8, Ua, ifT (by omega), ifF (by omega), ifT (by omega), By (by omega)])
 have L : EO (.int (i : Nat)) (.int (fd v1 (cl v3 i 0))) (.int 0) v0 v1 v2 v3 (cl v3 i 0) (cl v3 i 1) (cl v3 i 2) (cl v3 i 3) (cl v3 i 4) (cl v3 i 5) (cl v3 i 6) (cl v3 i 7) (cl v3 i 8) = cond (decide (fdG (Dc v3 i) i 0 < 0)) (EO (.int (i : Nat)) (.int (fd v1 (cl v3 i 0))) (.int (i : Nat)) v0 v1 v2 v3 (cl v3 i 0) (cl v3 i 1) (cl v3 i 2) (cl v3 i 3) (cl v3 i 4) (cl v3 i 5) (cl v3 i 6) (cl v3 i 7) (cl v3 i 8)) (.row [.int 1, .bool false]) := L;rw [L];have e : decide (fdG (Dc v3 i) i 0 < 0) = !dup v3 i := by unfold dup; rw [Bool.not_not]
 rw [e];cases dup v3 i
 ·show EO (.int (i : Nat)) (.int (fd v1 (cl v3 i 0))) (.int (i : Nat)) v0 v1 v2 v3 (cl v3 i 0) (cl v3 i 1) (cl v3 i 2) (cl v3 i 3) (cl v3 i 4) (cl v3 i 5) (cl v3 i 6) (cl v3 i 7) (cl v3 i 8) = .row [.int 1, .bool (!NP v0 v1 v3 i)];have a1 := FP (l := v1) (key := cl v3 i 0);have t2 : (cl v3 i 2).toInt = n2 := by rw [h2]; rfl
  have R : EO (.int (i : Nat)) (.int (fd v1 (cl v3 i 0))) (.int (i : Nat)) v0 v1 v2 v3 (cl v3 i 0) (cl v3 i 1) (.int n2) (cl v3 i 3) (cl v3 i 4) (cl v3 i 5) (.int n6) (.int n7) (.int n8) = .row [.int 1, .bool (!NP v0 v1 v3 i)] := by
   rw [Ua, ifF (by omega)]
   simp only [LI, AY, AZ, Aw, AA, decide_true, cond_true, decide_eq_true a1, decide_eq_false (show ¬ fd v1 (cl v3 i 0) < 0 by omega), cond_false]
   unfold NP;by_cases k1 : n2 = 1
   ·rw [ifT k1, ifT (t2.trans k1)];cases nm (cl v3 i 3) <;> cases nm (cl v3 i 4) <;> rfl
   rw [ifF k1, ifF (p := (cl v3 i 2).toInt = 1) (by omega)]
   by_cases k2 : n2 = 2
   ·rw [ifT k2, ifT (t2.trans k2)];cases nm (cl v3 i 3) <;> cases nm (cl v3 i 4) <;> rfl
   rw [ifF k2, ifF (p := (cl v3 i 2).toInt = 2) (by omega)]
   by_cases k3 : n2 = 3
   ·rw [ifT k3, ifT (t2.trans k3)];cases eqC (cl v3 i 3) 0 0 <;> cases eqC (cl v3 i 4) 0 0 <;> simp only [cond_true, cond_false, Bool.not_true, Bool.not_false, Bool.not_not]
   rw [ifF k3, ifF (p := (cl v3 i 2).toInt = 3) (by omega)]
   by_cases k4 : n2 = 4
   ·rw [ifT k4, ifT (t2.trans k4)];cases eqC (cl v3 i 3) 0 0 <;> cases eqC (cl v3 i 4) 0 0 <;> rfl
   rw [ifF k4, ifF (p := (cl v3 i 2).toInt = 4) (by omega)]
   rfl
  rw [h2, h6, h7, h8];exact R
 ·rfl
theorem UT (hs : Cd v3) (hn : len v3 < 1000) (hn1 : len v1 < 1000) (hn2 : len v2 < 1000) {i : Nat} (hi : i < len v3) : Pz v0 v1 v2 v3 (.int (i : Nat)) = .row [.int 1, .bool (!GJ v0 v1 v2 v3 i)] := by
 rw [Yv, ifF (by omega), ifT (by omega)]
 have a1 := FP (l := v1) (key := cl v3 i 0);have a2 := FP (l := v2) (key := cl v3 i 5);simp only [Ru (v0 := v0) (v1 := v1) (v2 := v2) (v3 := v3) (by omega), QQ (v0 := v0) (v1 := v1) (v2 := v2) (v3 := v3) (by omega), AY, AZ, Aw, AA, decide_true, cond_true, decide_eq_true a2]
 unfold GJ;by_cases c : fd v1 (cl v3 i 0) < 0
 ·rw [ifT c, decide_eq_true c]; rfl
 rw [ifF c, decide_eq_false c, Sp hs hn hn1 hn2 hi (by omega)]
 unfold Vd;cases decide (fd v1 (cl v3 i 1) < 0) <;> cases dup v3 i <;> cases NP v0 v1 v3 i <;> simp only [cond_true, cond_false, Bool.true_or, Bool.false_or, Bool.not_true, Bool.not_false]
 all_goals (repeat' (refine IZ (fun h => ?_) (fun h => ?_))) <;> simp only [*, cond_true, cond_false, Bool.not_true, Bool.not_false, Bool.cond_self]
end
end Uc
namespace Uc
open Go Go.AE
section
variable [Au]
variable {v0 v1 v2 v3 : D}
def Qa (v2 : D) : Int := cond (decide (4 < (len v2 : Int))) 4 (fdG (JL v2) (len v2) 0)
def Om (v1 : D) : Int := cond (decide ((len v1 : Int) < 1)) 0 (cond (decide (24 < (len v1 : Int))) 24 (fdG (I6 v1) (len v1) 0))
def QI (v0 v1 v2 v3 : D) : Int := cond (decide (80 < (len v3 : Int))) 80 (fdG (GJ v0 v1 v2 v3) (len v3) 0)
def rok (v0 v1 v2 v3 : D) : Bool := nm v0 && (decide (Qa v2 < 0) && (decide (Om v1 < 0) && decide (QI v0 v1 v2 v3 < 0)))
theorem Zz (hn : len v2 < 1000) : Io (.int 0) v0 v1 v2 v3 = cond (decide (fdG (JL v2) (len v2) 0 < 0)) (Io (.int (len v2 : Nat)) v0 v1 v2 v3) (.row [.int 1, .int (fdG (JL v2) (len v2) 0).toNat, .int 291]) :=
 Gl (F := fun j => Io (.int (j : Nat)) v0 v1 v2 v3) (n := len v2) (bad := JL v2) (B := fun j => .row [.int 1, .int (j : Nat), .int 291]) fun j hj => by
  show Io (.int (j : Nat)) v0 v1 v2 v3 = cond _ _ (Io (.int (j + 1 : Nat)) v0 v1 v2 v3);have a := PG hj;rw [TU, ifT (by omega), ifF (by omega), By (by omega)]
  simp only [LI, Ru (v0 := v0) (v1 := v1) (v2 := v2) (v3 := v3) (by omega), AY, AZ, Aw, AA, decide_true, cond_true]
  unfold JL;by_cases q : fd v2 (cl v2 j 0) < j
  ·rw [ifF (by omega), decide_eq_true q]
   cases nm (cl v2 j 0) <;> rfl
  ·rw [ifT (by omega), decide_eq_false q]
   cases nm (cl v2 j 0) <;> cases decide ((cl v2 j 1).toInt < 1) <;> cases decide (1000 < (cl v2 j 1).toInt) <;> rfl
theorem Zh (hn : len v1 < 1000) : Ij (.int 0) v0 v1 v2 v3 = cond (decide (fdG (I6 v1) (len v1) 0 < 0)) (Ij (.int (len v1 : Nat)) v0 v1 v2 v3) (.row [.int 1, .int (fdG (I6 v1) (len v1) 0).toNat, .int 292]) :=
 Gl (F := fun j => Ij (.int (j : Nat)) v0 v1 v2 v3) (n := len v1) (bad := I6 v1) (B := fun j => .row [.int 1, .int (j : Nat), .int 292]) fun j hj => by
  show Ij (.int (j : Nat)) v0 v1 v2 v3 = cond _ _ (Ij (.int (j + 1 : Nat)) v0 v1 v2 v3);have a := PG hj;rw [TV, ifT (by omega), ifF (by omega), By (by omega)]
  simp only [LI, QQ (v0 := v0) (v1 := v1) (v2 := v2) (v3 := v3) (by omega), AY, AZ, Aw, AA, decide_true, cond_true]
  unfold I6;by_cases q : fd v1 (cl v1 j 0) < j
  ·rw [ifF (by omega), decide_eq_true q]
   cases nm (cl v1 j 0) <;> rfl
  ·rw [ifT (by omega), decide_eq_false q]
   cases nm (cl v1 j 0) <;> cases decide ((cl v1 j 2).toInt < 0) <;> cases decide (1048576 < (cl v1 j 2).toInt) <;> rfl
theorem YS (hs : Cd v3) (hn : len v3 < 1000) (hn1 : len v1 < 1000) (hn2 : len v2 < 1000) : HY (.int 0) v0 v1 v2 v3 = cond (decide (fdG (GJ v0 v1 v2 v3) (len v3) 0 < 0)) (HY (.int (len v3 : Nat)) v0 v1 v2 v3) (.row [.int 1, .int (fdG (GJ v0 v1 v2 v3) (len v3) 0).toNat, .int 293]) :=
 Gl (F := fun j => HY (.int (j : Nat)) v0 v1 v2 v3) (n := len v3) (bad := GJ v0 v1 v2 v3) (B := fun j => .row [.int 1, .int (j : Nat), .int 293]) fun j hj => by
  show HY (.int (j : Nat)) v0 v1 v2 v3 = cond _ _ (HY (.int (j + 1 : Nat)) v0 v1 v2 v3);rw [T6, ifT (by omega), By (by omega)]
  simp only [UT hs hn hn1 hn2 hj, AY, AZ, Aw, AA, decide_true, cond_true];cases GJ v0 v1 v2 v3 j <;> rfl
theorem Ra (hs : Cd v3) (hn : len v3 < 1000) (hn1 : len v1 < 1000) (hn2 : len v2 < 1000) (v0 : D) : ∃ a e, KA v0 v1 v2 v3 = .row [.int 1, .int a, .int e] ∧ decide (e = 0) = rok v0 v1 v2 v3 := by
 have E : ∀ a e : Int, e ≠ 0 → rok v0 v1 v2 v3 = false → ∃ a' e', D.row [.int 1, .int a, .int e] = .row [.int 1, .int a', .int e'] ∧ decide (e' = 0) = rok v0 v1 v2 v3 := fun a e h q => ⟨a, e, rfl, by rw [q]; exact decide_eq_false h⟩
 rw [VJ];simp only [LI, AY, AZ, Aw, AA, decide_true, cond_true];cases c0 : nm v0
 ·exact E _ _ (by omega) (by unfold rok; rw [c0]; rfl)
 by_cases c1 : 4 < (len v2 : Int)
 ·rw [ifT c1];exact E _ _ (by omega) (by unfold rok Qa; rw [c0, ifT c1]; rfl)
 rw [ifF c1, Zz hn2];by_cases c2 : fdG (JL v2) (len v2) 0 < 0;rotate_left
 ·rw [ifF c2];exact E _ _ (by omega) (by unfold rok Qa; rw [c0, ifF c1, decide_eq_false c2]; rfl)
 rw [ifT c2, TU, ifF (by omega)]
 have k1 : decide (Qa v2 < 0) = true := by unfold Qa; rw [ifF c1]; exact decide_eq_true c2
 by_cases c3 : (len v1 : Int) = 0
 ·rw [ifT c3];exact E _ _ (by omega) (by unfold rok; rw [c0, k1]; unfold Om; rw [ifT (by omega)]; rfl)
 rw [ifF c3];by_cases c4 : 24 < (len v1 : Int)
 ·rw [ifT c4];exact E _ _ (by omega) (by unfold rok; rw [c0, k1]; unfold Om; rw [ifF (by omega), ifT c4]; rfl)
 rw [ifF c4, Zh hn1];by_cases c5 : fdG (I6 v1) (len v1) 0 < 0;rotate_left
 ·rw [ifF c5];exact E _ _ (by omega) (by unfold rok; rw [c0, k1]; unfold Om; rw [ifF (by omega), ifF c4, decide_eq_false c5]; rfl)
 rw [ifT c5, TV, ifF (by omega)]
 have k2 : decide (Om v1 < 0) = true := by unfold Om; rw [ifF (by omega), ifF c4]; exact decide_eq_true c5
 by_cases c6 : 80 < (len v3 : Int)
 ·rw [ifT c6];exact E _ _ (by omega) (by unfold rok; rw [c0, k1, k2]; unfold QI; rw [ifT c6]; rfl)
 rw [ifF c6, YS hs hn hn1 hn2];by_cases c7 : fdG (GJ v0 v1 v2 v3) (len v3) 0 < 0;rotate_left
 ·rw [ifF c7];exact E _ _ (by omega) (by unfold rok; rw [c0, k1, k2]; unfold QI; rw [ifF c6, decide_eq_false c7]; rfl)
 rw [ifT c7, T6, ifF (by omega)]
 exact ⟨0, 0, rfl, by unfold rok; rw [c0, k1, k2]; unfold QI; rw [ifF c6, decide_eq_true c7]; rfl⟩
end
end Uc
namespace Uc
open Go Go.AE
def Cl (l : D) (i : Nat) : Bool := !decide (fdG (fun j => D.strEq (cl l j 0) (cl l i 0)) i 0 < 0)
def Gz (v1 v5 v8 : D) (i : Nat) : Bool := decide (fd v1 (cl v8 i 0) < 0) || (decide (fd v5 (cl v8 i 1) < 0) || Cl v8 i)
def F7 (v2 v6 v9 : D) (i : Nat) : Bool := decide (fd v6 (cl v9 i 0) < 0) || ((!eqC (cl v9 i 1) 0 0 && decide (fd v2 (cl v9 i 1) < 0)) || (Cl v9 i || (decide (1000 < (cl v9 i 2).toInt) || decide ((cl v9 i 2).toInt < (-1000)))))
section
variable [Au]
variable {v0 v1 v2 v3 v4 v5 v6 v7 v8 v9 : D}
def chk (v0 v1 v2 v3 v4 v5 v6 v7 v8 v9 : D) : D := cond (rok v0 v1 v2 v3) (cond (rok v4 v5 v6 v7) (cond (decide (24 < (len v8 : Int))) (.row [.int 1, .int 24, .int 490])
 (cond (decide (fdG (Gz v1 v5 v8) (len v8) 0 < 0)) (cond (decide (4 < (len v9 : Int))) (.row [.int 1, .int 4, .int 491])
  (cond (decide (fdG (F7 v2 v6 v9) (len v9) 0 < 0)) (.row [.int 1, .int 0, .int 0]) (.row [.int 1, .int (fdG (F7 v2 v6 v9) (len v9) 0).toNat, .int 491])))
  (.row [.int 1, .int (fdG (Gz v1 v5 v8) (len v8) 0).toNat, .int 490]))) (.row [.int 1, .int 0, .int 2])) (.row [.int 1, .int 0, .int 2])
theorem ZU (hn1 : len v1 < 1000) (hn5 : len v5 < 1000) (hn : len v8 < 1000) {b : Bool} : Fe v0 v1 v2 v3 v4 v5 v6 v7 v8 v9 (.bool b) (.int 0) Lq = cond (decide (fdG (Gz v1 v5 v8) (len v8) 0 < 0)) (Fe v0 v1 v2 v3 v4 v5 v6 v7 v8 v9 (.bool b) (.int (len v8 : Nat)) (Ct (fun j => cl v8 j 0) (len v8))) (.row [.int 1, .int (fdG (Gz v1 v5 v8) (len v8) 0).toNat, .int 490]) :=
 Gl (F := fun j => Fe v0 v1 v2 v3 v4 v5 v6 v7 v8 v9 (.bool b) (.int (j : Nat)) (Ct (fun j => cl v8 j 0) j)) (n := len v8) (bad := Gz v1 v5 v8) (B := fun j => .row [.int 1, .int (j : Nat), .int 490]) fun i hi => by
  show Fe v0 v1 v2 v3 v4 v5 v6 v7 v8 v9 (.bool b) (.int (i : Nat)) (Ct (fun j => cl v8 j 0) i) = cond _ _ (Fe v0 v1 v2 v3 v4 v5 v6 v7 v8 v9 (.bool b) (.int (i + 1 : Nat)) (Ct (fun j => cl v8 j 0) (i + 1)))
  rw [Un, ifT (by omega), ifF (by omega), By (by omega)]
  simp only [Uq (v0 := v1) (by omega), Uq (v0 := v5) (by omega), AY, AZ, Aw, AA, decide_true, cond_true, Mo]
  unfold Gz Cl;cases decide (fd v1 (cl v8 i 0) < 0) <;> cases decide (fd v5 (cl v8 i 1) < 0) <;> simp only [cond_true, cond_false, Bool.true_or, Bool.false_or]
  by_cases q : fdG (fun j => D.strEq (cl v8 j 0) (cl v8 i 0)) i 0 < 0
  ·rw [ifT q, decide_eq_true q];show Fe v0 v1 v2 v3 v4 v5 v6 v7 v8 v9 (.bool b) (.int (i + 1 : Nat)) (ad (Ct (fun j => cl v8 j 0) i) (.row [(fun j : Nat => cl v8 j 0) i, .bool true])) = Fe v0 v1 v2 v3 v4 v5 v6 v7 v8 v9 (.bool b) (.int (i + 1 : Nat)) (Ct (fun j => cl v8 j 0) (i + 1))
   rw [JV]
  ·have a := Js (p := fun j => D.strEq (cl v8 j 0) (cl v8 i 0)) (k := i) (i := 0)
   rw [ifF q, decide_eq_false q, Ji (by omega) (by omega)]
   rfl
theorem SZ {n : Int} {α : Type} {x y z : α} (hz : z = cond (decide (1000 < n) || decide (n < (-1000))) x y) : cond (decide (n < IntKind.wrap .i64 (0 - n))) (cond (decide (1000 < IntKind.wrap .i64 (0 - n))) x (cond (decide (n < (-1000))) x y)) (cond (decide (1000 < n)) x (cond (decide (n < (-1000))) x y)) = z := by
 subst hz;by_cases c : 1000 < n
 ·rw [decide_eq_true c, Bool.true_or, cond_true];by_cases q : n < IntKind.wrap .i64 (0 - n)
  ·rw [ifT q, ifT (by omega)]; rfl
  ·rw [ifF q]; rfl
 rw [decide_eq_false c, Bool.false_or, cond_false];by_cases d : n < -1000
 ·rw [ifT d, Bool.cond_self, Bool.cond_self]
 ·rw [ifF d, C2 (by omega) (by omega), ifF (p := 1000 < 0 - n) (by omega), Bool.cond_self]
theorem Zt (hn2 : len v2 < 1000) (hn6 : len v6 < 1000) (hn : len v9 < 1000) {b c d : Bool} {m : Int} : DA v0 v1 v2 v3 v4 v5 v6 v7 v8 v9 (.bool b) (.int m) (.bool c) (.bool d) (.int 0) Lq = cond (decide (fdG (F7 v2 v6 v9) (len v9) 0 < 0)) (DA v0 v1 v2 v3 v4 v5 v6 v7 v8 v9 (.bool b) (.int m) (.bool c) (.bool d) (.int (len v9 : Nat)) (Ct (fun j => cl v9 j 0) (len v9))) (.row [.int 1, .int (fdG (F7 v2 v6 v9) (len v9) 0).toNat, .int 491]) :=
 Gl (F := fun j => DA v0 v1 v2 v3 v4 v5 v6 v7 v8 v9 (.bool b) (.int m) (.bool c) (.bool d) (.int (j : Nat)) (Ct (fun j => cl v9 j 0) j)) (n := len v9) (bad := F7 v2 v6 v9) (B := fun j => .row [.int 1, .int (j : Nat), .int 491]) fun i hi => by
  show DA v0 v1 v2 v3 v4 v5 v6 v7 v8 v9 (.bool b) (.int m) (.bool c) (.bool d) (.int (i : Nat)) (Ct (fun j => cl v9 j 0) i) = cond _ _ (DA v0 v1 v2 v3 v4 v5 v6 v7 v8 v9 (.bool b) (.int m) (.bool c) (.bool d) (.int (i + 1 : Nat)) (Ct (fun j => cl v9 j 0) (i + 1)))
  have hs : ad (Ct (fun j => cl v9 j 0) i) (.row [cl v9 i 0, .bool true]) = Ct (fun j => cl v9 j 0) (i + 1) := JV (f := fun j => cl v9 j 0)
  rw [Uk, ifT (by omega), ifF (by omega), By (by omega)]
  simp only [Se (v0 := v2) (by omega), Se (v0 := v6) (by omega), AY, AZ, Aw, AA, decide_true, cond_true, Mo, hs]
  unfold F7 Cl;by_cases q : fdG (fun j => D.strEq (cl v9 j 0) (cl v9 i 0)) i 0 < 0
  ·simp only [ifT q, decide_eq_true q];cases decide (fd v6 (cl v9 i 0) < 0) <;> cases eqC (cl v9 i 1) 0 0 <;> cases decide (fd v2 (cl v9 i 1) < 0) <;> first | rfl | (simp only [cond_true, cond_false, Bool.true_or, Bool.false_or, Bool.not_true, Bool.not_false, Bool.true_and, Bool.false_and]; exact SZ rfl)
  ·have a := Js (p := fun j => D.strEq (cl v9 j 0) (cl v9 i 0)) (k := i) (i := 0)
   simp only [ifF q, decide_eq_false q, Ji (f := fun j : Nat => cl v9 j 0) (i := i) (j := fdG (fun j => D.strEq (cl v9 j 0) (cl v9 i 0)) i 0) (by omega) (by omega)]
   cases decide (fd v6 (cl v9 i 0) < 0) <;> cases eqC (cl v9 i 1) 0 0 <;> cases decide (fd v2 (cl v9 i 1) < 0) <;> rfl
theorem RV (hs : Cd v3) (hs7 : Cd v7) (hn1 : len v1 < 1000) (hn2 : len v2 < 1000) (hn3 : len v3 < 1000) (hn5 : len v5 < 1000) (hn6 : len v6 < 1000) (hn7 : len v7 < 1000) (hn8 : len v8 < 1000) (hn9 : len v9 < 1000) : In v0 v1 v2 v3 v4 v5 v6 v7 v8 v9 = chk v0 v1 v2 v3 v4 v5 v6 v7 v8 v9 := by
 rw [Wf];simp only [PE, T7 (v2 := v2) hn2, T7 (v2 := v6) hn6, Ue (v1 := v1) hn1, Ue (v1 := v5) hn5, TQ hs hn3 hn1 hn2, TQ hs7 hn7 hn5 hn6, AY, AZ, Aw, AA, decide_true, cond_true, ZU hn1 hn5 hn8];unfold chk rok Qa Om QI;cases nm v0 <;> simp only [cond_true, cond_false, Bool.true_and, Bool.false_and]
 cases decide ((cond (decide (4 < (len v2 : Int))) 4 (fdG (JL v2) (len v2) 0)) < 0) <;> simp only [cond_true, cond_false, Bool.true_and, Bool.false_and]
 cases decide ((cond (decide ((len v1 : Int) < 1)) 0 (cond (decide (24 < (len v1 : Int))) 24 (fdG (I6 v1) (len v1) 0))) < 0) <;> simp only [cond_true, cond_false, Bool.true_and, Bool.false_and]
 cases decide ((cond (decide (80 < (len v3 : Int))) 80 (fdG (GJ v0 v1 v2 v3) (len v3) 0)) < 0) <;> simp only [cond_true, cond_false, Bool.true_and, Bool.false_and]
 cases nm v4 <;> simp only [cond_true, cond_false, Bool.true_and, Bool.false_and]
 cases decide ((cond (decide (4 < (len v6 : Int))) 4 (fdG (JL v6) (len v6) 0)) < 0) <;> simp only [cond_true, cond_false, Bool.true_and, Bool.false_and]
 cases decide ((cond (decide ((len v5 : Int) < 1)) 0 (cond (decide (24 < (len v5 : Int))) 24 (fdG (I6 v5) (len v5) 0))) < 0) <;> simp only [cond_true, cond_false, Bool.true_and, Bool.false_and]
 cases decide ((cond (decide (80 < (len v7 : Int))) 80 (fdG (GJ v4 v5 v6 v7) (len v7) 0)) < 0) <;> simp only [cond_true, cond_false, Bool.true_and, Bool.false_and]
 congr 2
 rw [Un, ifF (by omega), Zt hn2 hn6 hn9]
 congr 2
 rw [Uk, ifF (by omega)]
theorem Zp {v0 v1 v2 v3 v4 v5 v6 v7 v8 v9 : D} (hn : len v8 < 1000) {i : Nat} (hi : i < len v8) {b : Bool} : EU (.int (i : Nat)) (.bool b) (.int 0) v0 v1 v2 v3 v4 v5 v6 v7 v8 v9 = cond (b || Cl v8 i) (.row [.int 1, .int (i : Nat), .int 490]) (GT (.int (i + 1 : Nat)) v0 v1 v2 v3 v4 v5 v6 v7 v8 v9) := by
 have A := TZ (G := fun b j => EU (.int (i : Nat)) (.bool b) (.int (j : Nat)) v0 v1 v2 v3 v4 v5 v6 v7 v8 v9) (b := b) (n := i) (p := fun j => D.strEq (cl v8 j 0) (cl v8 i 0)) (fun b j hj => by
  show EU (.int (i : Nat)) (.bool b) (.int (j : Nat)) v0 v1 v2 v3 v4 v5 v6 v7 v8 v9 = cond b (EU (.int (i : Nat)) (.bool true) (.int (j + 1 : Nat)) v0 v1 v2 v3 v4 v5 v6 v7 v8 v9) (EU (.int (i : Nat)) (.bool (D.strEq (cl v8 j 0) (cl v8 i 0))) (.int (j + 1 : Nat)) v0 v1 v2 v3 v4 v5 v6 v7 v8 v9);rw [T8, ifT (by omega), By (by omega), ifF (by omega), ifT (by omega), ifF (by omega), ifT (by omega)])
 refine A.trans ?_;show EU (.int (i : Nat)) (.bool (b || Cl v8 i)) (.int (i : Nat)) v0 v1 v2 v3 v4 v5 v6 v7 v8 v9 = _;rw [T8, ifF (by omega), By (by omega)]
theorem Za {v0 v1 v2 v3 v4 v5 v6 v7 v8 v9 : D} (hn1 : len v1 < 1000) (hn5 : len v5 < 1000) (hn : len v8 < 1000) : GT (.int 0) v0 v1 v2 v3 v4 v5 v6 v7 v8 v9 = cond (decide (fdG (Gz v1 v5 v8) (len v8) 0 < 0)) (GT (.int (len v8 : Nat)) v0 v1 v2 v3 v4 v5 v6 v7 v8 v9) (.row [.int 1, .int (fdG (Gz v1 v5 v8) (len v8) 0).toNat, .int 490]) :=
 Gl (F := fun j => GT (.int (j : Nat)) v0 v1 v2 v3 v4 v5 v6 v7 v8 v9) (n := len v8) (bad := Gz v1 v5 v8) (B := fun j => .row [.int 1, .int (j : Nat), .int 490]) fun i hi => by
  show GT (.int (i : Nat)) v0 v1 v2 v3 v4 v5 v6 v7 v8 v9 = cond _ _ (GT (.int (i + 1 : Nat)) v0 v1 v2 v3 v4 v5 v6 v7 v8 v9);rw [Uh, ifT (by omega), ifF (by omega)]
  simp only [Sd (v0 := v0) (v1 := v1) (v2 := v2) (v3 := v3) (by omega), Sd (v0 := v4) (v1 := v5) (v2 := v6) (v3 := v7) (by omega), AY, AZ, Aw, AA, decide_true, cond_true, Zp hn hi]
  unfold Gz;cases decide (fd v1 (cl v8 i 0) < 0) <;> cases decide (fd v5 (cl v8 i 1) < 0) <;> rfl
theorem ZH {v0 v1 v2 v3 v4 v5 v6 v7 v8 v9 x : D} {n : Int} (hn : len v9 < 1000) {i : Nat} (hi : i < len v9) {b : Bool} : De (.int (i : Nat)) (.bool b) (.int 0) v0 v1 v2 v3 v4 v5 v6 v7 v8 v9 (cl v9 i 0) x (.int n) = cond (b || Cl v9 i) (.row [.int 1, .int (i : Nat), .int 491]) (FY (.int (i + 1 : Nat)) v0 v1 v2 v3 v4 v5 v6 v7 v8 v9) := by
 have A := TZ (G := fun b j => De (.int (i : Nat)) (.bool b) (.int (j : Nat)) v0 v1 v2 v3 v4 v5 v6 v7 v8 v9 (cl v9 i 0) x (.int n)) (b := b) (n := i) (p := fun j => D.strEq (cl v9 j 0) (cl v9 i 0)) (fun b j hj => by
  show De (.int (i : Nat)) (.bool b) (.int (j : Nat)) v0 v1 v2 v3 v4 v5 v6 v7 v8 v9 (cl v9 i 0) x (.int n) = cond b (De (.int (i : Nat)) (.bool true) (.int (j + 1 : Nat)) v0 v1 v2 v3 v4 v5 v6 v7 v8 v9 (cl v9 i 0) x (.int n)) (De (.int (i : Nat)) (.bool (D.strEq (cl v9 j 0) (cl v9 i 0))) (.int (j + 1 : Nat)) v0 v1 v2 v3 v4 v5 v6 v7 v8 v9 (cl v9 i 0) x (.int n));rw [Ud, ifT (by omega), By (by omega), ifF (by omega), ifT (by omega)])
 refine A.trans ?_;show De (.int (i : Nat)) (.bool (b || Cl v9 i)) (.int (i : Nat)) v0 v1 v2 v3 v4 v5 v6 v7 v8 v9 (cl v9 i 0) x (.int n) = _;rw [Ud, ifF (by omega), By (by omega)]
def C8 (v9 : D) : Prop := ∀ i : Nat, i < len v9 → ∃ n, cl v9 i 2 = .int n
theorem WG {v0 v1 v2 v3 v4 v5 v6 v7 v8 v9 x : D} (hp : C8 v9) (hn : len v9 < 1000) {i : Nat} (hi : i < len v9) {b : Bool} : De (.int (i : Nat)) (.bool b) (.int 0) v0 v1 v2 v3 v4 v5 v6 v7 v8 v9 (cl v9 i 0) x (cl v9 i 2) = cond (b || Cl v9 i) (.row [.int 1, .int (i : Nat), .int 491]) (FY (.int (i + 1 : Nat)) v0 v1 v2 v3 v4 v5 v6 v7 v8 v9) := by
 obtain ⟨n, h2⟩ := hp i hi;rw [h2];exact ZH hn hi
theorem Zw {v0 v1 v2 v3 v4 v5 v6 v7 v8 v9 : D} (hp : C8 v9) (hn2 : len v2 < 1000) (hn6 : len v6 < 1000) (hn : len v9 < 1000) : FY (.int 0) v0 v1 v2 v3 v4 v5 v6 v7 v8 v9 = cond (decide (fdG (F7 v2 v6 v9) (len v9) 0 < 0)) (FY (.int (len v9 : Nat)) v0 v1 v2 v3 v4 v5 v6 v7 v8 v9) (.row [.int 1, .int (fdG (F7 v2 v6 v9) (len v9) 0).toNat, .int 491]) :=
 Gl (F := fun j => FY (.int (j : Nat)) v0 v1 v2 v3 v4 v5 v6 v7 v8 v9) (n := len v9) (bad := F7 v2 v6 v9) (B := fun j => .row [.int 1, .int (j : Nat), .int 491]) fun i hi => by
  show FY (.int (i : Nat)) v0 v1 v2 v3 v4 v5 v6 v7 v8 v9 = cond _ _ (FY (.int (i + 1 : Nat)) v0 v1 v2 v3 v4 v5 v6 v7 v8 v9);rw [Us, ifT (by omega), ifF (by omega)]
  unfold F7;simp only [Si (v0 := v0) (v1 := v1) (v2 := v2) (v3 := v3) (by omega), Si (v0 := v4) (v1 := v5) (v2 := v6) (v3 := v7) (by omega), AY, AZ, Aw, AA, decide_true, cond_true, WG hp hn hi]
  cases decide (fd v6 (cl v9 i 0) < 0) <;> cases eqC (cl v9 i 1) 0 0 <;> cases decide (fd v2 (cl v9 i 1) < 0) <;> cases Cl v9 i <;> cases decide (1000 < (cl v9 i 2).toInt) <;> simp only [cond_true, cond_false, Bool.true_or, Bool.false_or, Bool.or_true, Bool.or_false, Bool.not_true, Bool.not_false, Bool.true_and, Bool.false_and]
theorem R5 (hs : Cd v3) (hs7 : Cd v7) (hp : C8 v9) (hn1 : len v1 < 1000) (hn2 : len v2 < 1000) (hn3 : len v3 < 1000) (hn5 : len v5 < 1000) (hn6 : len v6 < 1000) (hn7 : len v7 < 1000) (hn8 : len v8 < 1000) (hn9 : len v9 < 1000) : H5 v0 v1 v2 v3 v4 v5 v6 v7 v8 v9 = chk v0 v1 v2 v3 v4 v5 v6 v7 v8 v9 := by
 obtain ⟨a, e, h1, h2⟩ := Ra hs hn3 hn1 hn2 v0;obtain ⟨a', e', h1', h2'⟩ := Ra hs7 hn7 hn5 hn6 v4;rw [X1];simp only [h1, h1', AY, AZ, Aw, AA, decide_true, cond_true, Za hn1 hn5 hn8];unfold chk;by_cases c : e = 0;rotate_left
 ·rw [ifF c, ← h2, ifF c]
 rw [ifT c, ← h2, ifT c];by_cases c' : e' = 0;rotate_left
 ·rw [ifF c', ← h2', ifF c']
 rw [ifT c', ← h2', ifT c']
 congr 2
 rw [Uh, ifF (by omega), Zw hp hn2 hn6 hn9]
 congr 2
 rw [Us, ifF (by omega)]
end
end Uc
namespace Uc
open Go Go.AE
theorem FZ {F : Nat → D} {n : Nat} (hs : ∀ j, j < n → F j = F (j + 1)) : F 0 = F n := by
 have : ∀ k, k ≤ n → F 0 = F k := fun k => by
  induction k with
  | zero => intro _; rfl
  | succ k ih => intro h; rw [ih (by omega), hs k (by omega)]
 exact this n (Nat.le_refl _)
theorem MD {l key : D} (hd : ∀ i, i < len l → Cl l i = false) {k : Nat} (hk : k < len l) : D.strEq (cl l k 0) key = decide ((k : Int) = fd l key) := by
 by_cases e : (k : Int) = fd l key
 ·rw [decide_eq_true e, e];exact Up (by omega)
 ·rw [decide_eq_false e];cases q : D.strEq (cl l k 0) key with
  | false => rfl
  | true =>
   have h := L4 (p := fun j => D.strEq (cl l j 0) key) (k := len l) (i := 0) (j := k) (Nat.zero_le _) (by omega) q
   have h' : 0 ≤ fd l key ∧ fd l key ≤ k := h;have h1 := Up h'.1;have h2 := hd k hk;unfold Cl at h2
   have h3 : fdG (fun j => D.strEq (cl l j 0) (cl l k 0)) k 0 < 0 := by
    cases c : decide (fdG (fun j => D.strEq (cl l j 0) (cl l k 0)) k 0 < 0) with
    | true => exact dT c
    | false => rw [c] at h2; cases h2
   have h4 := OB (p := fun j => D.strEq (cl l j 0) (cl l k 0)) (k := k) (i := 0) (j := (fd l key).toNat) (Nat.zero_le _) (.inr ⟨h3, by omega⟩)
   have h5 : (((fd l key).toNat : Nat) : Int) = fd l key := by omega
   have h6 : D.strEq (cl l (((fd l key).toNat : Nat) : Int) 0) (cl l k 0) = false := h4;rw [h5] at h6;have := LG h1 (BW.trans q);rw [this] at h6;cases h6
section
variable [Au]
variable {v0 v1 v2 v3 v4 v5 v6 v7 v8 v9 v10 v11 v12 v13 v14 v15 : D}
theorem UC (hn : len v0 < 1000) (a k : D) (n : Int) : HX v0 a k (.int n) = .row [.int 1, .int (fd v0 k)] := (V8 ..).trans (BH (F := fun i => Pc v0 (.int i) a k (.int n)) (by omega) fun i => WW ..)
theorem UI (hn : len v0 < 1000) (a k : D) : K8 v0 a k = .row [.int 1, .int (fd v0 k)] := (Wi ..).trans (BH (F := fun i => O5 v0 (.int i) a k) (by omega) fun i => W3 ..)
def sR (v12 v14 : D) (i : Nat) : D := .row [cl v12 i 0, cl v14 (fd v14 (cl v12 i 1)) 1]
def SL (v12 v14 : D) : Nat → D
 | 0 => BL
 | i + 1 => cond (decide (fd v14 (cl v12 i 1) < 0)) (SL v12 v14 i) (ad (SL v12 v14 i) (sR v12 v14 i))
def SF (v12 v14 : D) : Nat → Bool
 | 0 => true
 | i + 1 => cond (decide (fd v14 (cl v12 i 1) < 0)) (SF v12 v14 i) false
theorem LL : ∀ {i : Nat}, len (SL v12 v14 i) ≤ i
 | 0 => Nat.le_refl _
 | i + 1 => by
  unfold SL;have := LL (i := i);cases decide (fd v14 (cl v12 i 1) < 0)
  ·show len (ad _ _) ≤ _;rw [Rt]; omega
  ·show len (SL v12 v14 i) ≤ _;omega
theorem ZX (hn : len v12 < 1000) (hn' : len v14 < 1000) (C : D) (b : Bool) : FW v12 (.int 0) v14 v15 BL (.bool true) C (.bool b) = FW v12 (.int (len v12 : Nat)) v14 v15 (SL v12 v14 (len v12)) (.bool (SF v12 v14 (len v12))) C (.bool b) :=
 FZ (F := fun i => FW v12 (.int (i : Nat)) v14 v15 (SL v12 v14 i) (.bool (SF v12 v14 i)) C (.bool b)) fun j hj => by
  show FW v12 (.int (j : Nat)) v14 v15 (SL v12 v14 j) (.bool (SF v12 v14 j)) C (.bool b) = FW v12 (.int (j + 1 : Nat)) v14 v15 (cond (decide (fd v14 (cl v12 j 1) < 0)) (SL v12 v14 j) (ad (SL v12 v14 j) (sR v12 v14 j))) (.bool (cond (decide (fd v14 (cl v12 j 1) < 0)) (SF v12 v14 j) false)) C (.bool b);have h := UI (v0 := v14) hn' (cl v12 j 0) (cl v12 j 1);have hl := LL (v12 := v12) (v14 := v14) (i := j);rw [Uj, ifT (by omega), ifF (by omega), By (by omega)]
  simp only [h, AY, AZ, Aw, decide_true, cond_true];by_cases c : fd v14 (cl v12 j 1) < 0
  ·simp only [decide_eq_true c, cond_true]
  ·simp only [decide_eq_false c, cond_false];rw [ifT FP, ifT (by omega)]
   rfl
def cO (v13 v15 : D) (i : Nat) : D := cond (decide (fd v13 (cl v15 i 1) < 0)) (M5 0 0) (cl v13 (fd v13 (cl v15 i 1)) 1)
def cB (v13 v15 : D) (i : Nat) : Int := cond (decide (fd v13 (cl v15 i 1) < 0)) (cl v15 i 2).toInt (IntKind.wrap .i64 ((cl v15 i 2).toInt + (cl v13 (fd v13 (cl v15 i 1)) 2).toInt))
def cR (v13 v15 : D) (i : Nat) : D := .row [cl v15 i 0, cO v13 v15 i, .int (cB v13 v15 i)]
def CL (v13 v15 : D) : Nat → D
 | 0 => BL
 | i + 1 => ad (CL v13 v15 i) (cR v13 v15 i)
def CF : Nat → Bool
 | 0 => true
 | _ + 1 => false
theorem Gf : ∀ {i : Nat}, len (CL v13 v15 i) = i
 | 0 => rfl
 | i + 1 => by
  show len (ad _ _) = _;rw [Rt, Gf]
theorem Um {j : Nat} : ∀ {n i : Nat}, i < n → cl (CL v13 v15 n) i j = sl (cR v13 v15 i) j
 | n + 1, i, h => by
  show cl (ad _ _) _ _ = _;rw [VZ (by omega), Gf]
  by_cases q : i = n
  ·subst q;rw [if_pos rfl]
  ·rw [if_neg (by omega)]
   exact Um (by omega)
theorem Tw {i : Nat} : CL v13 v15 (i + 1) = ad (CL v13 v15 i) (cR v13 v15 i) := rfl
theorem Rk (hp : C8 v15) (hn : len v13 < 1000) (hn' : len v15 < 1000) {j : Nat} (hj : j < len v15) (b : Bool) : H7 v13 (CL v13 v15 j) (.bool b) v15 (.int (j : Nat)) = H7 v13 (ad (CL v13 v15 j) (cR v13 v15 j)) (.bool false) v15 (.int (j + 1 : Nat)) := by
 obtain ⟨n, hb⟩ := hp j hj
 have h : HX v13 (cl v15 j 0) (cl v15 j 1) (cl v15 j 2) = .row [.int 1, .int (fd v13 (cl v15 j 1))] := by
  rw [hb];exact UC hn _ _ _
 have hl := Gf (v13 := v13) (v15 := v15) (i := j);rw [Ub, ifT (by omega), ifF (by omega), By (by omega)]
 simp only [h, AY, AZ, Aw, decide_true, cond_true];by_cases c : fd v13 (cl v15 j 1) < 0
 ·have e : cR v13 v15 j = .row [cl v15 j 0, M5 0 0, cl v15 j 2] := by
   unfold cR cO cB;rw [ifT c, ifT c, hb, Aw]
  rw [ifT c, ifT (by omega), e]
 ·have e : cR v13 v15 j = .row [cl v15 j 0, cl v13 (fd v13 (cl v15 j 1)) 1, .int (IntKind.wrap .i64 ((cl v15 j 2).toInt + (cl v13 (fd v13 (cl v15 j 1)) 2).toInt))] := by
   unfold cR cO cB;rw [ifF c, ifF c]
  rw [ifF c, ifT FP, ifT (by omega), e]
theorem UB (hp : C8 v15) (hn : len v13 < 1000) (hn' : len v15 < 1000) : MY v13 v15 = .row [.int 1, CL v13 v15 (len v15), .bool (CF (len v15))] := by
 have h : ∀ k, k ≤ len v15 → H7 v13 BL (.bool true) v15 (.int (0 : Nat)) = H7 v13 (CL v13 v15 k) (.bool (CF k)) v15 (.int (k : Nat)) := fun k => by
  induction k with
  | zero => intro _; rfl
  | succ k ih => intro q; rw [ih (by omega), Rk hp hn hn' (by omega), Tw, CF]
 rw [Xx];refine (h _ (Nat.le_refl _)).trans ?_;rw [Ub, ifF (by omega)]
def ME (v13 v15 : D) (i : Nat) : Bool := decide (cB v13 v15 i < (-1000)) || decide (1000 < cB v13 v15 i)
def La (l : D) : Prop := ∀ i : Nat, i < len l → -1000 ≤ (cl l i 2).toInt ∧ (cl l i 2).toInt ≤ 1000
theorem QN (h13 : La v13) (h15 : La v15) {i : Nat} (hi : i < len v15) : -2000 ≤ cB v13 v15 i ∧ cB v13 v15 i ≤ 2000 := by
 have a := h15 i hi;unfold cB;by_cases c : fd v13 (cl v15 i 1) < 0
 ·rw [ifT c]; omega
 ·rw [ifF c];have hl := FP (l := v13) (key := cl v15 i 1);have b := h13 (fd v13 (cl v15 i 1)).toNat (by omega)
  have e : (((fd v13 (cl v15 i 1)).toNat : Nat) : Int) = fd v13 (cl v15 i 1) := by omega
  rw [e] at b;rw [C2 (by omega) (by omega)]
  omega
theorem U9 (h13 : La v13) (h15 : La v15) (hn' : len v15 < 1000) (b : Bool) : O6 (CL v13 v15 (len v15)) (.bool b) = .row [.int 1, .int (fdG (ME v13 v15) (len v15) 0)] := by
 rw [Xo];refine find (F := fun i => Ii (CL v13 v15 (len v15)) (.bool b) (.int (i : Nat))) (fun j hj => ?_) ?_
 ·show Ii (CL v13 v15 (len v15)) (.bool b) (.int (j : Nat)) = cond _ _ (Ii (CL v13 v15 (len v15)) (.bool b) (.int (j + 1 : Nat)));have hl := Gf (v13 := v13) (v15 := v15) (i := len v15);have hB := QN h13 h15 hj
  have hc : (cl (CL v13 v15 (len v15)) j 2).toInt = cB v13 v15 j := by
   rw [Um hj];rfl
  rw [TW, ifT (by omega), ifF (by omega), By (by omega), hc, C2 (by omega) (by omega)]
  unfold ME;by_cases c1 : cB v13 v15 j < 0 - cB v13 v15 j
  ·rw [ifT c1];by_cases c2 : 1000 < 0 - cB v13 v15 j
   ·rw [ifT c2, decide_eq_true (show cB v13 v15 j < -1000 by omega)]
    rfl
   ·rw [ifF c2, decide_eq_false (show ¬ cB v13 v15 j < -1000 by omega), decide_eq_false (show ¬ 1000 < cB v13 v15 j by omega)]
    rfl
  ·rw [ifF c1, decide_eq_false (show ¬ cB v13 v15 j < -1000 by omega)]
   rfl
 ·show Ii (CL v13 v15 (len v15)) (.bool b) (.int (len v15 : Nat)) = _;have hl := Gf (v13 := v13) (v15 := v15) (i := len v15);rw [TW, ifF (by omega)]
def VT (v12 v13 v14 v15 : D) : D := cond (decide (fdG (ME v13 v15) (len v15) 0 < 0)) (.row [.int 1, SL v12 v14 (len v12), .bool (SF v12 v14 (len v12)), CL v13 v15 (len v15), .bool (CF (len v15)), .int 0]) (.row [.int 1, BL, .bool true, BL, .bool true, .int 3])
theorem ZN (hp : C8 v15) (h13 : La v13) (h15 : La v15) (hn2 : len v12 < 1000) (hn3 : len v13 < 1000) (hn4 : len v14 < 1000) (hn5 : len v15 < 1000) : FW v12 (.int 0) v14 v15 BL (.bool true) (CL v13 v15 (len v15)) (.bool (CF (len v15))) = VT v12 v13 v14 v15 := by
 rw [ZX hn2 hn4, Uj, ifF (by omega)]
 simp only [U9 h13 h15 hn5, AY, AZ, Aw, decide_true, cond_true];rfl
end
end Uc
namespace Uc
open Go Go.AE
def DD (q : Int) (k : Nat) : Bool := decide (0 ≤ q) && decide (q < (k : Int))
theorem KI {q : Int} : DD q 0 = false := by
 unfold DD;by_cases c : 0 ≤ q
 ·rw [decide_eq_false (show ¬ q < ((0 : Nat) : Int) by omega), Bool.and_false]
 ·rw [decide_eq_false c, Bool.false_and]
theorem OU {q : Int} {k : Nat} (h : (k : Int) = q) : DD q k = false ∧ DD q (k + 1) = true := by
 unfold DD;rw [decide_eq_false (show ¬ q < (k : Int) by omega), Bool.and_false, decide_eq_true (show 0 ≤ q by omega), decide_eq_true (show q < ((k + 1 : Nat) : Int) by omega)]
 exact ⟨rfl, rfl⟩
theorem Pm {q : Int} {k : Nat} (h : ¬ (k : Int) = q) : DD q (k + 1) = DD q k := by
 unfold DD;rw [show decide (q < ((k + 1 : Nat) : Int)) = decide (q < (k : Int)) from decide_eq_decide.2 (by omega)]
theorem Mp {q : Int} {k : Nat} (h : q < (k : Int)) : DD q k = !decide (q < 0) := by
 unfold DD;rw [decide_eq_true h, Bool.and_true];by_cases c : q < 0
 ·rw [decide_eq_true c, decide_eq_false (by omega)]; rfl
 ·rw [decide_eq_false c, decide_eq_true (by omega)]; rfl
theorem To {α : Type} {c : Bool} {a b : α} : cond (!c) a b = cond c b a := by cases c <;> rfl
section
variable [Au]
variable {v0 v1 v2 v3 v4 v5 v6 v7 v8 v9 v10 v11 v12 v13 v14 v15 S C : D} {p q : Bool}
theorem PZ (hd : ∀ i, i < len v14 → Cl v14 i = false) (h14 : len v14 < 1000) (h12 : len v12 < 1000) {i : Nat} (hi : i < len v12) (hl : len S < 10000) {k : Nat} (hk : k < len v14) :
  GQ (.int (i : Nat)) (.int (k : Nat)) v12 v13 v14 v15 (cond (DD (fd v14 (cl v12 i 1)) k) (ad S (sR v12 v14 i)) S) (.bool (cond (DD (fd v14 (cl v12 i 1)) k) false p)) = GQ (.int (i : Nat)) (.int (k + 1 : Nat)) v12 v13 v14 v15 (cond (DD (fd v14 (cl v12 i 1)) (k + 1)) (ad S (sR v12 v14 i)) S) (.bool (cond (DD (fd v14 (cl v12 i 1)) (k + 1)) false p)) := by
 rw [T9, ifT (by omega), ifF (by omega), ifT (by omega), ifF (by omega), BW (a := cl v12 i 1), MD hd hk, By (by omega)]
 by_cases c : (k : Int) = fd v14 (cl v12 i 1)
 ·have pa := OU c;rw [pa.1, pa.2, ifT c];simp only [cond_true, cond_false];rw [ifT (by omega), c]
  rfl
 ·rw [ifF c, Pm c]
theorem Zn (hd : ∀ i, i < len v14 → Cl v14 i = false) (h14 : len v14 < 1000) (h12 : len v12 < 1000) {i : Nat} (hi : i < len v12) (hl : len S < 10000) :
  GQ (.int (i : Nat)) (.int 0) v12 v13 v14 v15 S (.bool p) = JI (.int (i + 1 : Nat)) v12 v13 v14 v15 (cond (decide (fd v14 (cl v12 i 1) < 0)) S (ad S (sR v12 v14 i))) (.bool (cond (decide (fd v14 (cl v12 i 1) < 0)) p false)) := by
 have h : ∀ k, k ≤ len v14 → GQ (.int (i : Nat)) (.int 0) v12 v13 v14 v15 S (.bool p) = GQ (.int (i : Nat)) (.int (k : Nat)) v12 v13 v14 v15 (cond (DD (fd v14 (cl v12 i 1)) k) (ad S (sR v12 v14 i)) S) (.bool (cond (DD (fd v14 (cl v12 i 1)) k) false p)) := fun k => by
  induction k with
  | zero => intro _; rw [KI]; rfl
  | succ k ih => intro q; rw [ih (by omega), PZ hd h14 h12 hi hl (by omega)]
 rw [h _ (Nat.le_refl _), Mp FP, To, To, T9, ifF (by omega), By (by omega)]
theorem Y3 (hd : ∀ i, i < len v14 → Cl v14 i = false) (h14 : len v14 < 1000) (h12 : len v12 < 1000) :
  JI (.int 0) v12 v13 v14 v15 BL (.bool true) = Hd (.int 0) v12 v13 v14 v15 (SL v12 v14 (len v12)) (.bool (SF v12 v14 (len v12))) BL (.bool true) := by
 have h : ∀ k, k ≤ len v12 → JI (.int 0) v12 v13 v14 v15 BL (.bool true) = JI (.int (k : Nat)) v12 v13 v14 v15 (SL v12 v14 k) (.bool (SF v12 v14 k)) := fun k => by
  induction k with
  | zero => intro _; rfl
  | succ k ih =>
   intro q;have := LL (v12 := v12) (v14 := v14) (i := k);rw [ih (by omega), TT, ifT (by omega), Zn hd h14 h12 (by omega) (by omega)]
   rfl
 rw [h _ (Nat.le_refl _), TT, ifF (by omega)]
theorem P5 (hd : ∀ i, i < len v13 → Cl v13 i = false) (h13 : len v13 < 1000) (h15 : len v15 < 1000) {i : Nat} (hi : i < len v15) {k : Nat} (hk : k < len v13) {n : Int} (N : D) :
  Ih (.int (i : Nat)) (.int (k : Nat)) v12 v13 v14 v15 S (.bool p) C (.bool q) N (cond (DD (fd v13 (cl v15 i 1)) k) (cl v13 (fd v13 (cl v15 i 1)) 1) (M5 0 0)) (.int (cond (DD (fd v13 (cl v15 i 1)) k) (IntKind.wrap .i64 (n + (cl v13 (fd v13 (cl v15 i 1)) 2).toInt)) n)) =
  Ih (.int (i : Nat)) (.int (k + 1 : Nat)) v12 v13 v14 v15 S (.bool p) C (.bool q) N (cond (DD (fd v13 (cl v15 i 1)) (k + 1)) (cl v13 (fd v13 (cl v15 i 1)) 1) (M5 0 0)) (.int (cond (DD (fd v13 (cl v15 i 1)) (k + 1)) (IntKind.wrap .i64 (n + (cl v13 (fd v13 (cl v15 i 1)) 2).toInt)) n)) := by
 rw [T4, ifT (by omega), ifF (by omega), ifF (by omega), ifT (by omega), MD hd hk, By (by omega)]
 by_cases c : (k : Int) = fd v13 (cl v15 i 1)
 ·have pa := OU c;rw [pa.1, pa.2, ifT c];simp only [cond_true, cond_false];rw [c]
 ·rw [ifF c, Pm c]
theorem ZY (hd : ∀ i, i < len v13 → Cl v13 i = false) (h13 : len v13 < 1000) (h15 : len v15 < 1000) {i : Nat} (hi : i < len v15) {n : Int} (hn : cl v15 i 2 = .int n) (hC : len C < 10000) :
  Hd (.int (i : Nat)) v12 v13 v14 v15 S (.bool p) C (.bool q) = cond (ME v13 v15 i) (.row [.int 1, BL, .bool true, BL, .bool true, .int 3]) (Hd (.int (i + 1 : Nat)) v12 v13 v14 v15 S (.bool p) (ad C (cR v13 v15 i)) (.bool false)) := by
 have h : ∀ k, k ≤ len v13 → Ih (.int (i : Nat)) (.int 0) v12 v13 v14 v15 S (.bool p) C (.bool q) (cl v15 i 0) (M5 0 0) (.int n) = Ih (.int (i : Nat)) (.int (k : Nat)) v12 v13 v14 v15 S (.bool p) C (.bool q) (cl v15 i 0) (cond (DD (fd v13 (cl v15 i 1)) k) (cl v13 (fd v13 (cl v15 i 1)) 1) (M5 0 0)) (.int (cond (DD (fd v13 (cl v15 i 1)) k) (IntKind.wrap .i64 (n + (cl v13 (fd v13 (cl v15 i 1)) 2).toInt)) n)) := fun k => by
  induction k with
  | zero => intro _; rw [KI]; rfl
  | succ k ih => intro q; rw [ih (by omega), P5 hd h13 h15 hi (by omega)]
 rw [TP, ifT (by omega), ifF (by omega), hn, h _ (Nat.le_refl _), Mp FP, To, To, T4, ifF (by omega), By (by omega)]
 have eB : cond (decide (fd v13 (cl v15 i 1) < 0)) n (IntKind.wrap .i64 (n + (cl v13 (fd v13 (cl v15 i 1)) 2).toInt)) = cB v13 v15 i := by
  unfold cB;rw [hn, Aw]
 rw [eB];unfold ME cR cO;by_cases c1 : cB v13 v15 i < -1000
 ·rw [ifT c1, decide_eq_true c1];rfl
 rw [ifF c1, decide_eq_false c1, Bool.false_or];by_cases c2 : 1000 < cB v13 v15 i
 ·rw [ifT c2, ifT c2]
 ·rw [ifF c2, ifF c2, ifT (by omega)]
theorem YQ (hp : C8 v15) (hd : ∀ i, i < len v13 → Cl v13 i = false) (h13 : len v13 < 1000) (h15 : len v15 < 1000) :
  Hd (.int 0) v12 v13 v14 v15 S (.bool p) BL (.bool true) = cond (decide (fdG (ME v13 v15) (len v15) 0 < 0)) (.row [.int 1, S, .bool p, CL v13 v15 (len v15), .bool (CF (len v15)), .int 0]) (.row [.int 1, BL, .bool true, BL, .bool true, .int 3]) := by
 have L := Gl (F := fun j => Hd (.int (j : Nat)) v12 v13 v14 v15 S (.bool p) (CL v13 v15 j) (.bool (CF j))) (n := len v15) (bad := ME v13 v15) (B := fun _ => .row [.int 1, BL, .bool true, BL, .bool true, .int 3]) fun j hj => by
  obtain ⟨n, hb⟩ := hp j hj;have hl := Gf (v13 := v13) (v15 := v15) (i := j);exact ZY hd h13 h15 hj hb (by omega)
 refine Eq.trans L ?_
 congr 1
 show Hd (.int (len v15 : Nat)) v12 v13 v14 v15 S (.bool p) (CL v13 v15 (len v15)) (.bool (CF (len v15))) = _;rw [TP, ifF (by omega)]
end
end Uc
namespace Uc
open Go Go.AE
def R1 (x : D) : Prop := ∃ b : Bool, x = .row [.int 1, .bool b]
theorem R1.no : R1 (.row [.int 1, .bool false]) := ⟨_, rfl⟩
theorem R1.c {c : Bool} {x y : D} (h : R1 x) (h' : R1 y) : R1 (cond c x y) := by cases c <;> assumption
section
variable [Au]
variable {v0 v1 v2 v3 v4 v5 v6 v7 v8 v9 v10 v11 v12 v13 v14 v15 : D}
def Rp (P : Prop) (x : D) : Prop := ∃ b : Bool, x = .row [.int 1, .bool b] ∧ (b = true → P)
theorem Rp.no {P : Prop} : Rp P (.row [.int 1, .bool false]) := ⟨_, rfl, fun h => by cases h⟩
theorem Rp.c {P : Prop} {c : Bool} {x y : D} (h : Rp P x) (h' : Rp P y) : Rp P (cond c x y) := by cases c <;> assumption
theorem Rp.i {P p : Prop} [Decidable p] {y : D} (h : ¬ p → Rp P y) : Rp P (cond (decide p) (.row [.int 1, .bool false]) y) := by
 by_cases c : p
 ·rw [ifT c]; exact .no
 ·rw [ifF c]; exact h c
def Txt (v3 : D) (i : Nat) : Prop := ∀ j : Nat, i ≤ j → j < len v3 → Bq (cl v3 j 3) ≤ 40 ∧ Bq (cl v3 j 4) ≤ 40
theorem Q3 (hn : len v3 < 1000) (s : Int) : ∀ {k i : Nat}, i + k = len v3 → Rp (Txt v3 i) (S9 (.int s) (.int (i : Nat)) v0 v1 v2 v3)
 | 0, i, h => by rw [VF, ifF (by omega)]; exact ⟨_, rfl, fun _ j _ _ => by omega⟩
 | k + 1, i, h => by
  rw [VF, ifT (by omega), ifF (by omega), By (by omega)]
  refine .i fun _ => .i fun _ => .i fun c1 => .i fun c2 => .i fun _ => ?_
  obtain ⟨b, q, hb⟩ := Q3 hn s (k := k) (i := i + 1) (by omega)
  refine ⟨b, q, fun z j h1 h2 => ?_⟩
  by_cases d : j = i
  ·subst d;exact ⟨by omega, by omega⟩
  ·exact hb z j (by omega) h2
theorem QH (hn : len v1 < 1000) (hn3 : len v3 < 1000) (s : Int) : ∀ {k i : Nat}, i + k = len v1 → Rp (Txt v3 0) (Te (.int s) (.int (i : Nat)) v0 v1 v2 v3)
 | 0, i, h => by rw [VM, ifF (by omega)]; exact Q3 (i := 0) (k := len v3) hn3 s (by omega)
 | k + 1, i, h => by
  rw [VM, ifT (by omega), ifF (by omega), By (by omega)]
  exact .i fun _ => QH hn hn3 s (k := k) (by omega)
theorem LX (hn : len v1 < 1000) (hn2 : len v2 < 1000) (hn3 : len v3 < 1000) : ∀ {k i : Nat} (s : Int), i + k = len v2 → Rp (Txt v3 0) (PK (.int s) (.int (i : Nat)) v0 v1 v2 v3)
 | 0, i, s, h => by rw [Wk, ifF (by omega)]; exact QH (i := 0) (k := len v1) hn hn3 s (by omega)
 | k + 1, i, s, h => by
  rw [Wk, ifT (by omega), ifF (by omega), By (by omega)]
  exact .c (.i fun _ => LX hn hn2 hn3 _ (k := k) (by omega)) (.c (.i fun _ => LX hn hn2 hn3 _ (k := k) (by omega)) (.i fun _ => LX hn hn2 hn3 _ (k := k) (by omega)))
def MZ (v3 : D) : Prop := ∀ i : Nat, i < len v3 → (∃ n, cl v3 i 2 = .int n) ∧ (∃ n, cl v3 i 6 = .int n) ∧ (∃ n, cl v3 i 7 = .int n) ∧ (∃ n, cl v3 i 8 = .int n)
theorem J6 (v0 v1 v2 v3 : D) : ∃ b, MA v0 v1 v2 v3 = .row [.int 1, .bool b] ∧ (b = true → len v1 ≤ 6 ∧ len v2 ≤ 5 ∧ len v3 ≤ 12 ∧ (MZ v3 → Cd v3)) := by
 rw [Zm];by_cases c1 : 6 < (len v1 : Int)
 ·rw [ifT c1]; exact ⟨_, rfl, fun h => by cases h⟩
 by_cases c2 : 12 < (len v3 : Int)
 ·rw [ifF c1, ifT c2]; exact ⟨_, rfl, fun h => by cases h⟩
 by_cases c3 : 5 < (len v2 : Int)
 ·rw [ifF c1, ifF c2, ifT c3]; exact ⟨_, rfl, fun h => by cases h⟩
 rw [ifF c1, ifF c2, ifF c3];obtain ⟨b, hb, ht⟩ := Rp.i (p := 40 < (Bq v0 : Int)) fun _ => LX (v0 := v0) (v1 := v1) (v2 := v2) (v3 := v3) (i := 0) (k := len v2) (by omega) (by omega) (by omega) 0 (by omega)
 refine ⟨b, hb, fun z => ⟨by omega, by omega, by omega, fun hi i h => ?_⟩⟩
 obtain ⟨q1, q2, q3, q4⟩ := hi i h;obtain ⟨t1, t2⟩ := ht z i (by omega) h
 exact ⟨q1, q2, q3, q4, by omega, by omega⟩
theorem S1 {L C : D} (hL : len L < 1000) (hC : len C < 1000) (p q : Bool) : OS L (.bool p) C (.bool q) L (.bool p) C (.bool q) = .row [.int 1, .bool true] := by
 have h2 : ∀ {k i : Nat}, i + k = len C → Ph (.int (i : Nat)) L C L C (.bool p) (.bool q) (.bool p) (.bool q) = .row [.int 1, .bool true] := fun {k} => by
  induction k with
  | zero => intro i h; rw [T3, ifF (by omega)]
  | succ k ih =>
   intro i h;rw [T3, ifT (by omega), ifF (by omega), ifT (by omega), By (by omega), C0, C0, decide_eq_true rfl]
   exact ih (by omega)
 have h1 : ∀ {k i : Nat}, i + k = len L → PA (.int (i : Nat)) L C L C (.bool p) (.bool q) (.bool p) (.bool q) = .row [.int 1, .bool true] := fun {k} => by
  induction k with
  | zero => intro i h; rw [Ul, ifF (by omega)]; exact h2 (k := len C) (i := 0) (by omega)
  | succ k ih =>
   intro i h;rw [Ul, ifT (by omega), ifF (by omega), ifT (by omega), By (by omega), C0, C0]
   exact ih (by omega)
 rw [WV, ifT rfl, ifT rfl];exact h1 (k := len L) (i := 0) (by omega)
theorem KQ (v0 v1 v2 v3 v4 v5 v6 v7 v8 v9 : D) : ∃ a e, chk v0 v1 v2 v3 v4 v5 v6 v7 v8 v9 = .row [.int 1, .int a, .int e] ∧ (e = 0 → rok v0 v1 v2 v3 = true ∧ rok v4 v5 v6 v7 = true ∧ (fdG (Gz v1 v5 v8) (len v8) 0 < 0) ∧ (fdG (F7 v2 v6 v9) (len v9) 0 < 0)) := by
 unfold chk;cases rok v0 v1 v2 v3
 ·exact ⟨_, _, rfl, fun h => by cases h⟩
 cases rok v4 v5 v6 v7
 ·exact ⟨_, _, rfl, fun h => by cases h⟩
 simp only [cond_true];by_cases c1 : 24 < (len v8 : Int)
 ·rw [ifT c1]; exact ⟨_, _, rfl, fun h => by cases h⟩
 rw [ifF c1];by_cases c2 : fdG (Gz v1 v5 v8) (len v8) 0 < 0;rotate_left
 ·rw [ifF c2]; exact ⟨_, _, rfl, fun h => by cases h⟩
 rw [ifT c2];by_cases c3 : 4 < (len v9 : Int)
 ·rw [ifT c3]; exact ⟨_, _, rfl, fun h => by cases h⟩
 rw [ifF c3];by_cases c4 : fdG (F7 v2 v6 v9) (len v9) 0 < 0;rotate_left
 ·rw [ifF c4]; exact ⟨_, _, rfl, fun h => by cases h⟩
 rw [ifT c4];exact ⟨_, _, rfl, fun _ => ⟨by simp, by simp, c2, c4⟩⟩
theorem TC (h : fdG (Gz v1 v5 v8) (len v8) 0 < 0) {i : Nat} (hi : i < len v8) : Cl v8 i = false := by
 have n := OB (p := Gz v1 v5 v8) (k := len v8) (i := 0) (j := i) (by omega) (.inr ⟨h, by omega⟩)
 unfold Gz at n;simp only [Bool.or_eq_false_iff] at n;exact n.2.2
theorem LY (h : fdG (F7 v2 v6 v9) (len v9) 0 < 0) {i : Nat} (hi : i < len v9) : Cl v9 i = false ∧ -1000 ≤ (cl v9 i 2).toInt ∧ (cl v9 i 2).toInt ≤ 1000 := by
 have n := OB (p := F7 v2 v6 v9) (k := len v9) (i := 0) (j := i) (by omega) (.inr ⟨h, by omega⟩)
 unfold F7 at n;simp only [Bool.or_eq_false_iff] at n;have a := dF n.2.2.2.1;have b := dF n.2.2.2.2;exact ⟨n.2.2.1, by omega, by omega⟩
theorem Td (hs : Cd v3) (hs7 : Cd v7) (hs11 : Cd v11) (hp : C8 v13) (hp' : C8 v15) (hn1 : len v1 < 1000) (hn2 : len v2 < 1000) (hn3 : len v3 < 1000) (hn5 : len v5 < 1000) (hn6 : len v6 < 1000) (hn7 : len v7 < 1000) (hn9 : len v9 < 1000) (hn10 : len v10 < 1000) (hn11 : len v11 < 1000) (h12 : len v12 < 1000) (h13 : len v13 < 1000) (h14 : len v14 < 1000) (h15 : len v15 < 1000) :
  ∃ L p C q e, len L < 1000 ∧ len C < 1000 ∧ EQ v0 v1 v2 v3 v4 v5 v6 v7 v8 v9 v10 v11 v12 v13 v14 v15 = .row [.int 1, L, .bool p, C, .bool q, .int e] ∧ EN v0 v1 v2 v3 v4 v5 v6 v7 v8 v9 v10 v11 v12 v13 v14 v15 = .row [.int 1, L, .bool p, C, .bool q, .int e] := by
 rw [Xt, X8, RV hs hs7 hn1 hn2 hn3 hn5 hn6 hn7 h12 h13, R5 hs hs7 hp hn1 hn2 hn3 hn5 hn6 hn7 h12 h13, RV hs7 hs11 hn5 hn6 hn7 hn9 hn10 hn11 h14 h15, R5 hs7 hs11 hp' hn5 hn6 hn7 hn9 hn10 hn11 h14 h15];obtain ⟨a, e, q1, q2⟩ := KQ v0 v1 v2 v3 v4 v5 v6 v7 v12 v13;obtain ⟨a', e', q1', q2'⟩ := KQ v4 v5 v6 v7 v8 v9 v10 v11 v14 v15;rw [q1, q1'];simp only [AY, AZ, Aw, decide_true, cond_true];have z : len BL < 1000 := by show (0 : Nat) < 1000; omega
 by_cases c : e = 0;rotate_left
 ·simp only [c, decide_false, cond_false];exact ⟨_, _, _, _, _, z, z, rfl, rfl⟩
 subst c;simp only [decide_true, cond_true];by_cases c' : e' = 0;rotate_left
 ·simp only [c', decide_false, cond_false];exact ⟨_, _, _, _, _, z, z, rfl, rfl⟩
 subst c';rw [UB hp' h13 h15];simp only [AY, AZ, Aw, decide_true, cond_true];obtain ⟨_, _, r1, r2⟩ := q2 rfl;obtain ⟨_, _, r3, r4⟩ := q2' rfl;rw [ZN hp' (fun i hi => (LY r2 hi).2) (fun i hi => (LY r4 hi).2) h12 h13 h14 h15, Y3 (fun i hi => TC r3 hi) h14 h12, YQ hp' (fun i hi => (LY r2 hi).1) h13 h15]
 unfold VT;have l1 := LL (v12 := v12) (v14 := v14) (i := len v12);have l2 := Gf (v13 := v13) (v15 := v15) (i := len v15);by_cases d : fdG (ME v13 v15) (len v15) 0 < 0
 ·simp only [decide_eq_true d, cond_true];exact ⟨_, _, _, _, _, by omega, by omega, rfl, rfl⟩
 ·simp only [decide_eq_false d, cond_false];exact ⟨_, _, _, _, _, z, z, rfl, rfl⟩
theorem law (hi : MZ v3) (hi7 : MZ v7) (hi11 : MZ v11) (hp : C8 v13) (hp' : C8 v15) : Ug v0 v1 v2 v3 v4 v5 v6 v7 v8 v9 v10 v11 v12 v13 v14 v15 = .row [.int 1, .bool true] := by
 rw [W1];have k0 : decide ((sl Kh 0).toInt = 1) = true := by rw [Zc]; rfl
 obtain ⟨b1, s1, t1⟩ := J6 v0 v1 v2 v3;obtain ⟨b2, s2, t2⟩ := J6 v4 v5 v6 v7;obtain ⟨b3, s3, t3⟩ := J6 v8 v9 v10 v11;rw [k0, s1, s2, s3];simp only [AY, AZ, Aw, AA, decide_true, cond_true];cases b1 with
 | false => rfl
 | true =>
 cases b2 with
 | false => rfl
 | true =>
 cases b3 with
 | false => rfl
 | true =>
 obtain ⟨_, _, _, o1⟩ := t1 rfl;have hs := o1 hi;obtain ⟨_, _, _, o2⟩ := t2 rfl;have hs7 := o2 hi7;obtain ⟨_, _, _, o3⟩ := t3 rfl;have hs11 := o3 hi11;simp only [cond_true];by_cases c1 : 10 < (len v12 : Int)
 ·rw [ifT c1]
 by_cases c2 : 10 < (len v13 : Int)
 ·rw [ifF c1, ifT c2]
 by_cases c3 : 10 < (len v14 : Int)
 ·rw [ifF c1, ifF c2, ifT c3]
 by_cases c4 : 10 < (len v15 : Int)
 ·rw [ifF c1, ifF c2, ifF c3, ifT c4]
 rw [ifF c1, ifF c2, ifF c3, ifF c4];obtain ⟨L, p, C, q, e, l1, l2, E1, E2⟩ := Td (v0 := v0) (v1 := v1) (v2 := v2) (v4 := v4) (v5 := v5) (v6 := v6) (v8 := v8) (v9 := v9) (v10 := v10) (v12 := v12) (v14 := v14) hs hs7 hs11 hp hp' (by omega) (by omega) (by omega) (by omega) (by omega) (by omega) (by omega) (by omega) (by omega) (by omega) (by omega) (by omega) (by omega)
 rw [E1, E2];simp only [AY, AZ, Aw, AA, decide_true, cond_true, S1 l1 l2]
end
end Uc

