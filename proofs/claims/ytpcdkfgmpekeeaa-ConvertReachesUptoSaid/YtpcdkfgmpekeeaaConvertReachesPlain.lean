/- What is proved: what the plain functions over data say, whose trees the text before writes out: the law ConvertReaches answers true. Conditions: those that each theorem states. -/
import Derived.Test.YtpcdkfgmpekeeaaConvertReachesTree
set_option linter.unusedVariables false
set_option linter.unusedSectionVars false
namespace Go.AE
section
variable [While]
def atV (Ts : List (List (Tr Plf))) (xs : List D) : Val := valD (gAll Ts) xs
def fin (Ts : List (List (Tr Plf))) (k : Nat) (V : Val) : Plf → D
 | .stuck => .row []
 | .done s cs => .row (.int (s + 1 : Nat) :: cs.map (evalD V))
 | .next j θ => gAll Ts k (.row (.int j :: θ.map (evalD V)))
def finT (Ts : List (List (Tr Plf))) (k : Nat) (V : Val) (t : Tr Plf) : D := fin Ts k V (t.get V)
theorem g_eq {Ts : List (List (Tr Plf))} (h : tabsLt 0 Ts = true) {k p : Nat} {T : List (Tr Plf)} {t : Tr Plf} {xs : List D} (hk : Ts[k]? = some T) (hp : T[p]? = some t) :
  gAll Ts k (.row (.int (p : Nat) :: xs)) = finT Ts k (atV Ts xs) t := by
 have hd : dstep T (gAll Ts) (.row (.int (p : Nat) :: xs)) = dlStep (atV Ts xs) (t.get (atV Ts xs)) := by
  show (match T[p]? with | some t => dlStep _ (t.get _) | none => none) = _
  rw [hp]
  rfl
 unfold finT fin
 split
 ·rename_i e
  rw [e] at hd
  rw [gAll_eq h hk]
  rcases whileD_or (dstep T (gAll Ts)) (.row (.int (p : Nat) :: xs)) with q | ⟨n, q⟩
  ·exact q
  ·cases n with
   | zero => cases q
   | succ n =>
    simp only [runW, hd] at q
    cases q
 ·rename_i e
  rw [e] at hd
  rw [gAll_eq h hk]
  exact whileD_done hd
 ·rename_i e
  rw [e] at hd
  rw [gAll_eq h hk, whileD_next hd, ← gAll_eq h hk]
theorem finT_split {Ts : List (List (Tr Plf))} {k : Nat} {V : Val} {e : SB} {a b : Tr Plf} : finT Ts k V (.split e a b) = if evalB V e = true then finT Ts k V a else finT Ts k V b := by
 unfold finT
 rw [show (Tr.split e a b).get V = match evalB V e with | true => a.get V | false => b.get V from rfl]
 cases evalB V e <;> rfl
end
theorem wrap_i64 {a : Int} (h : -9223372036854775808 ≤ a) (h' : a < 9223372036854775808) : IntKind.wrap .i64 a = a := by
 show (if (true && decide (a % (2 ^ 64 : Int) ≥ 2 ^ 63)) = true then a % (2 ^ 64 : Int) - 2 ^ 64 else a % (2 ^ 64 : Int)) = a
 split
 ·rename_i q
  simp only [Bool.true_and, decide_eq_true_eq] at q
  omega
 ·rename_i q
  simp only [Bool.true_and, decide_eq_true_eq] at q
  omega
end Go.AE
namespace Go.AE
def len (d : D) : Nat := d.rows.length
def slen (d : D) : Nat := d.toStr.data.toList.length
def cl (a : D) (i : Int) (j : Nat) : D := (a.rows.getD i.toNat default).cells.getD j default
def sl (a : D) (j : Nat) : D := a.cells.getD j default
def nilD : D := .slc true []
def emptyD : D := .slc false []
def ad (a r : D) : D := .slc false (a.rows ++ [r])
def upd (a : D) (i : Int) (j : Nat) (x : D) : D := .slc a.isNil (a.rows.modify i.toNat fun r => .row (r.cells.set j x))
def rp (n : Int) (r : D) : D := .slc false (List.replicate n.toNat r)
def ct (a b : D) : D := .slc (a.isNil && b.rows.isEmpty) (a.rows ++ b.rows)
def sb (a : D) (lo hi : Int) : D := .slc a.isNil ((a.rows.drop lo.toNat).take (hi.toNat - lo.toNat))
def ni (a : D) (b : Bool) : D := .slc b a.rows
def sCat (a b : D) : D := .str (a.toStr ++ b.toStr)
def byts (a : D) : D := .slc false (a.toStr.data.toList.map fun b => .row [.int b.toNat])
def mIx (ks : List Kd) (a k : D) : Int := mIdxF ks k.cells a.rows 0
def sAt (a : D) (i : Int) : Int := ((a.toStr.data.toList[i.toNat]?).getD 0).toNat
def eqC (a : D) (l b : Nat) : Bool := strEq a.toStr.data.toList.length (packL a.toStr.data.toList) l b
theorem ifT {α : Type} {p : Prop} [Decidable p] {a b : α} (h : p) : cond (decide p) a b = a := by rw [decide_eq_true h]; rfl
theorem ifF {α : Type} {p : Prop} [Decidable p] {a b : α} (h : ¬ p) : cond (decide p) a b = b := by rw [decide_eq_false h]; rfl
theorem cT {α : Type} {c : Bool} {a b : α} (h : c = true) : cond c a b = a := by rw [h]; rfl
theorem cF {α : Type} {c : Bool} {a b : α} (h : c = false) : cond c a b = b := by rw [h]; rfl
section
variable [While]
def walkT (Ts : List (List (Tr Plf))) (k : Nat) (V : Val) : Tr Plf → D
 | .leaf l => fin Ts k V l
 | .split e a b => cond (evalB V e) (walkT Ts k V a) (walkT Ts k V b)
theorem finT_walk {Ts : List (List (Tr Plf))} {k : Nat} {V : Val} : ∀ t : Tr Plf, finT Ts k V t = walkT Ts k V t
 | .leaf l => rfl
 | .split e a b => by
  rw [finT_split, finT_walk a, finT_walk b, walkT]
  cases evalB V e <;> rfl
theorem g_walk {Ts : List (List (Tr Plf))} (h : tabsLt 0 Ts = true) {k p : Nat} {T : List (Tr Plf)} {t : Tr Plf} {xs : List D} (hk : Ts[k]? = some T) (hp : T[p]? = some t) :
  gAll Ts k (.row (.int (p : Nat) :: xs)) = walkT Ts k (atV Ts xs) t := (g_eq h hk hp).trans (finT_walk t)
theorem cg {Ts : List (List (Tr Plf))} {k : Nat} {V : Val} {e : SB} {a b : Tr Plf} {c : Bool} {x y : D} (h : evalB V e = c) (ha : walkT Ts k V a = x) (hb : walkT Ts k V b = y) : walkT Ts k V (.split e a b) = cond c x y := by
 rw [walkT, h, ha, hb]
end
theorem lE {V : Val} {a b : SE} {x y : Int} (h : (evalD V a).toInt = x) (h' : (evalD V b).toInt = y) : evalB V (.lss a b) = decide (x < y) := by rw [← h, ← h']; rfl
theorem qE {V : Val} {a b : SE} {x y : Int} (h : (evalD V a).toInt = x) (h' : (evalD V b).toInt = y) : evalB V (.eql a b) = decide (x = y) := by rw [← h, ← h']; rfl
theorem aE {V : Val} {a b : SE} {x y : Bool} (h : evalB V a = x) (h' : evalB V b = y) : evalB V (.and a b) = (x && y) := by rw [← h, ← h']; rfl
end Go.AE
namespace Go.AE
def Wd (a : D) (n : Nat) : Prop := ∀ r ∈ a.rows, ∃ cs, r = .row cs ∧ cs.length = n
theorem len_upd {a x : D} {i : Int} {j : Nat} : len (upd a i j x) = len a := by
 show (a.rows.modify _ _).length = _
 simp [len]
theorem len_ad {a r : D} : len (ad a r) = len a + 1 := by
 show (a.rows ++ [r]).length = _
 simp [len]
theorem len_rp {n : Int} {r : D} : len (rp n r) = n.toNat := by
 show (List.replicate _ _).length = _
 simp
theorem len_emptyD : len emptyD = 0 := rfl
theorem len_ni {a : D} {b : Bool} : len (ni a b) = len a := rfl
theorem len_sb {a : D} {lo hi : Int} (h : lo.toNat ≤ hi.toNat) (h' : hi.toNat ≤ len a) : len (sb a lo hi) = hi.toNat - lo.toNat := by
 show ((a.rows.drop _).take _).length = _
 have : hi.toNat ≤ a.rows.length := h'
 simp
 omega
theorem sl_row0 {x : D} {l : List D} : sl (.row (x :: l)) 0 = x := rfl
theorem sl_rowS {x : D} {l : List D} {n : Nat} : sl (.row (x :: l)) (n + 1) = sl (.row l) n := rfl
theorem toInt_int {n : Int} : (D.int n).toInt = n := rfl
theorem toBool_bool {b : Bool} : (D.bool b).toBool = b := rfl
theorem wd_nilD {n : Nat} : Wd nilD n := fun r hr => (by cases hr)
theorem wd_emptyD {n : Nat} : Wd emptyD n := fun r hr => (by cases hr)
theorem wd_ad {a : D} {cs : List D} {n : Nat} (h : Wd a n) (hc : cs.length = n) : Wd (ad a (.row cs)) n := by
 intro r hr
 have hr : r ∈ a.rows ++ [.row cs] := hr
 rcases List.mem_append.1 hr with q | q
 ·exact h r q
 ·exact ⟨cs, List.mem_singleton.1 q, hc⟩
theorem wd_rp {m : Int} {cs : List D} {n : Nat} (hc : cs.length = n) : Wd (rp m (.row cs)) n := fun r hr => ⟨cs, List.eq_of_mem_replicate hr, hc⟩
theorem wd_upd {a x : D} {i : Int} {j n : Nat} (h : Wd a n) : Wd (upd a i j x) n := by
 intro r hr
 have hr' : r ∈ a.rows.modify i.toNat fun r => .row (r.cells.set j x) := hr
 obtain ⟨k, hk, e⟩ := List.getElem_of_mem hr'
 rw [List.getElem_modify] at e
 have hk' : k < a.rows.length := by simpa using hk
 obtain ⟨cs, hc, hn⟩ := h _ (List.getElem_mem hk')
 split at e
 ·rw [hc] at e
  exact ⟨_, e.symm, by simp [D.cells, hn]⟩
 ·exact ⟨cs, by rw [← e]; exact hc, hn⟩
theorem wd_ni {a : D} {b : Bool} {n : Nat} (h : Wd a n) : Wd (ni a b) n := h
theorem wd_ct {a b : D} {n : Nat} (h : Wd a n) (h' : Wd b n) : Wd (ct a b) n := fun r hr => (List.mem_append.1 hr).elim (h r) (h' r)
theorem cl_upd {a x : D} {i k : Int} {j j' n : Nat} (h : Wd a n) (hj : j < n) (hi : 0 ≤ i) (hi' : i < len a) (hk : 0 ≤ k) : cl (upd a i j x) k j' = if k = i ∧ j' = j then x else cl a k j' := by
 have hi2 : i.toNat < a.rows.length := by have : len a = a.rows.length := rfl; omega
 show ((a.rows.modify i.toNat fun r => D.row (r.cells.set j x))[k.toNat]?.getD default).cells.getD j' default = _
 rw [List.getElem?_modify]
 by_cases q : k = i
 ·subst q
  obtain ⟨cs, hc, hn⟩ := h _ (List.getElem_mem hi2)
  rw [List.getElem?_eq_getElem hi2]
  show ((if k.toNat = k.toNat then D.row ((a.rows[k.toNat]).cells.set j x) else a.rows[k.toNat]).cells[j']?).getD default = _
  rw [if_pos rfl, hc]
  show ((cs.set j x)[j']?).getD default = _
  rw [List.getElem?_set]
  by_cases q' : j = j'
  ·subst q'
   rw [if_pos rfl, if_pos (by omega), if_pos ⟨rfl, rfl⟩]
   rfl
  ·rw [if_neg q', if_neg (fun c => q' c.2.symm)]
   show _ = (a.rows[k.toNat]?.getD default).cells.getD j' default
   rw [List.getElem?_eq_getElem hi2, Option.getD_some, hc]
   rfl
 ·have q2 : ¬ i.toNat = k.toNat := by omega
  rw [if_neg (fun c => q c.1)]
  simp [q2, cl]
theorem cl_ad {a r : D} {k : Int} {j : Nat} (hk : 0 ≤ k) : cl (ad a r) k j = if k = len a then sl r j else cl a k j := by
 have hl : len a = a.rows.length := rfl
 show ((a.rows ++ [r])[k.toNat]?.getD default).cells.getD j default = _
 by_cases q : k.toNat < a.rows.length
 ·rw [List.getElem?_append_left q, if_neg (by omega)]
  rfl
 ·by_cases q' : k = len a
  ·subst q'
   rw [if_pos rfl]
   have : ((len a : Int)).toNat = a.rows.length := by omega
   rw [this]
   simp [sl]
  ·rw [if_neg q', List.getElem?_eq_none (by simp; omega)]
   show _ = (a.rows[k.toNat]?.getD default).cells.getD j default
   rw [List.getElem?_eq_none (by omega)]
theorem cl_rp {n k : Int} {r : D} {j : Nat} (hk : 0 ≤ k) (hk' : k < n) : cl (rp n r) k j = sl r j := by
 show ((List.replicate n.toNat r)[k.toNat]?.getD default).cells.getD j default = _
 rw [List.getElem?_replicate, if_pos (by omega)]
 rfl
theorem cl_ni {a : D} {b : Bool} {k : Int} {j : Nat} : cl (ni a b) k j = cl a k j := rfl
end Go.AE
namespace Go.AE
end Go.AE
namespace Go.AE
end Go.AE
namespace Go.AE
theorem CanK.cell {K : TypeId → Option (List Kd)} {m j : Nat} {e : TypeId} {ks : List Kd} {kd : Kd} {d : D} {i : Int} (h : CanK K (m + 1) (.slice e) d) (hk : K e = some ks) (h0 : 0 ≤ i) (hi : i < len d) (hj : ks[j]? = some kd) : CanK K m kd (cl d i j) := by
 obtain ⟨nl, rows, rfl, _, q⟩ := h
 have hi' : i.toNat < rows.length := by have : len (.slc nl rows) = rows.length := rfl; omega
 obtain ⟨cs, e1, _, e3⟩ := q ks hk _ (List.getElem_mem hi')
 show CanK K m kd ((rows[i.toNat]?.getD default).cells.getD j default)
 rw [List.getElem?_eq_getElem hi', Option.getD_some, e1]
 exact e3 j kd hj
theorem CanK.toI {K : TypeId → Option (List Kd)} {m : Nat} {k : IntKind} {d : D} (h : CanK K m (.int k) d) : ∃ n, d = .int n := by cases m <;> exact h
end Go.AE
namespace Go.AE
end Go.AE
namespace Go.AE
def fdG (p : Nat → Bool) : Nat → Nat → Int
 | 0, _ => -1
 | k + 1, i => cond (p i) (i : Int) (fdG p k (i + 1))
theorem fdG_lt {p : Nat → Bool} : ∀ {k i : Nat}, fdG p k i < i + k
 | 0, i => by show (-1 : Int) < _; omega
 | k + 1, i => by
  rw [fdG]
  have := fdG_lt (p := p) (k := k) (i := i + 1)
  cases p i
  ·show fdG p k (i + 1) < _; omega
  ·show (i : Int) < _; omega
theorem fdG_ge {p : Nat → Bool} : ∀ {k i : Nat}, fdG p k i = -1 ∨ (i : Int) ≤ fdG p k i
 | 0, i => .inl rfl
 | k + 1, i => by
  rw [fdG]
  cases p i
  ·show fdG p k (i + 1) = _ ∨ _ ≤ fdG p k (i + 1)
   rcases fdG_ge (p := p) (k := k) (i := i + 1) with h | h
   ·exact .inl h
   ·exact .inr (by omega)
  ·exact .inr (Int.le_refl _)
theorem fdG_is {p : Nat → Bool} : ∀ {k i : Nat}, 0 ≤ fdG p k i → p (fdG p k i).toNat = true
 | 0, i => fun h => by simp [fdG] at h
 | k + 1, i => by
  rw [fdG]
  cases q : p i
  ·exact fdG_is (k := k)
  ·intro _
   show p i = true
   exact q
theorem fdG_le {p : Nat → Bool} : ∀ {k i j : Nat}, i ≤ j → j < i + k → p j = true → 0 ≤ fdG p k i ∧ fdG p k i ≤ j
 | 0, i, j => fun h h' => by omega
 | k + 1, i, j => by
  intro h h' hp
  rw [fdG]
  cases q : p i
  ·have : i ≠ j := fun c => by rw [c, hp] at q; cases q
   exact fdG_le (k := k) (by omega) (by omega) hp
  ·show 0 ≤ (i : Int) ∧ (i : Int) ≤ j; omega
theorem fdG_no {p : Nat → Bool} {k i j : Nat} (h : i ≤ j) (h' : (j : Int) < fdG p k i ∨ (fdG p k i < 0 ∧ j < i + k)) : p j = false := by
 cases q : p j
 ·rfl
 ·have := fdG_lt (p := p) (k := k) (i := i)
  have := fdG_le (p := p) (k := k) h (by omega) q
  omega
theorem fdG_all {p : Nat → Bool} {k i : Nat} (h : ∀ j, i ≤ j → j < i + k → p j = false) : fdG p k i = -1 := by
 rcases fdG_ge (p := p) (k := k) (i := i) with q | q
 ·exact q
 ·have a := fdG_is (p := p) (k := k) (i := i) (by omega)
  rw [h _ (by omega) (by have := fdG_lt (p := p) (k := k) (i := i); omega)] at a
  cases a
theorem fdG_congr {p q : Nat → Bool} : ∀ {k i : Nat}, (∀ j, i ≤ j → j < i + k → p j = q j) → fdG p k i = fdG q k i
 | 0, i, h => rfl
 | k + 1, i, h => by
  rw [fdG, fdG, h i (Nat.le_refl _) (by omega), fdG_congr fun j a b => h j (by omega) (by omega)]
theorem lookF {F : Nat → D} {bad : Nat → Bool} {B : Nat → D} {n : Nat} : ∀ {k i : Nat}, i + k = n → (∀ j, i ≤ j → j < n → F j = cond (bad j) (B j) (F (j + 1))) → F i = cond (decide (fdG bad k i < 0)) (F n) (B (fdG bad k i).toNat)
 | 0, i => fun h _ => by
  have : i = n := by omega
  subst this
  rfl
 | k + 1, i => fun h hs => by
  rw [hs i (Nat.le_refl _) (by omega), fdG]
  cases bad i
  ·exact lookF (by omega) fun j a b => hs j (by omega) b
  ·show B i = cond (decide ((i : Int) < 0)) _ (B (i : Int).toNat)
   rw [ifF (by omega)]
   rfl
theorem look {F : Nat → D} {bad : Nat → Bool} {B : Nat → D} {n : Nat} (hs : ∀ j, j < n → F j = cond (bad j) (B j) (F (j + 1))) : F 0 = cond (decide (fdG bad n 0 < 0)) (F n) (B (fdG bad n 0).toNat) := lookF (by omega) fun j _ b => hs j b
theorem find {F : Nat → D} {bad : Nat → Bool} {n : Nat} (hs : ∀ j, j < n → F j = cond (bad j) (.row [.int 1, .int (j : Nat)]) (F (j + 1))) (hr : F n = .row [.int 1, .int (-1)]) : F 0 = .row [.int 1, .int (fdG bad n 0)] := by
 rw [look hs, hr]
 have h := fdG_ge (p := bad) (k := n) (i := 0)
 by_cases q : fdG bad n 0 < 0
 ·rw [ifT q]
  rcases h with h | h
  ·rw [h]
  ·omega
 ·rw [ifF q]
  have : ((fdG bad n 0).toNat : Int) = fdG bad n 0 := by omega
  rw [this]
theorem wrapN {i : Nat} (h : i < 4611686018427387904) : IntKind.wrap .i64 ((i : Int) + 1) = ((i + 1 : Nat) : Int) := by rw [wrap_i64 (by omega) (by omega)]; omega
theorem cSplit {α : Type} {c : Bool} {a b x : α} (h1 : c = true → a = x) (h2 : c = false → b = x) : cond c a b = x := by
 cases c
 ·exact h2 rfl
 ·exact h1 rfl
theorem dT {p : Prop} [Decidable p] (h : decide p = true) : p := of_decide_eq_true h
theorem dF {p : Prop} [Decidable p] (h : decide p = false) : ¬ p := of_decide_eq_false h
theorem dComm {x y : Int} : decide (x = y) = decide (y = x) := decide_eq_decide.2 eq_comm
theorem strEqD_refl {a : D} : D.strEq a a = true := by
 show (Nat.beq _ _ && Nat.beq _ _) = true
 simp
theorem strEqD_comm {a b : D} : D.strEq a b = D.strEq b a := strEqComm (U := unk0) _ _ _ _
theorem eqC_zero {a : D} : eqC a 0 0 = decide (slen a = 0) := by
 show (Nat.beq _ 0 && Nat.beq _ 0) = _
 show _ = decide (a.toStr.data.toList.length = 0)
 cases a.toStr.data.toList <;> simp [packL]
theorem slen_cat {a b : D} : slen (sCat a b) = slen a + slen b := by
 show (a.toStr ++ b.toStr).data.toList.length = _
 simp [slen]
theorem sCat_empty {a b : D} : eqC (sCat a b) 0 0 = (eqC a 0 0 && eqC b 0 0) := by
 rw [eqC_zero, eqC_zero, eqC_zero, slen_cat, Bool.eq_iff_iff]
 simp
theorem strEqD_iff {a b : D} : D.strEq a b = true ↔ a.toStr = b.toStr := by
 show AE.strEq _ _ _ _ = true ↔ _
 rw [strEq_spec (U := unk0)]
 constructor
 ·intro h
  rw [ByteArray.toList_eq, ByteArray.toList_eq] at h
  have : a.toStr.data.toList = b.toStr.data.toList := by simpa only [beq_iff_eq] using h
  exact ByteArray.ext (Array.toList_inj.1 this)
 ·intro h
  rw [h]
  simp
theorem strEqD_trans {a b c : D} (h : D.strEq a b = true) (h' : D.strEq b c = true) : D.strEq a c = true := strEqD_iff.2 ((strEqD_iff.1 h).trans (strEqD_iff.1 h'))
theorem strEqD_congr {a b c : D} (h : D.strEq a b = true) : D.strEq a c = D.strEq b c := by
 show AE.strEq _ _ _ _ = AE.strEq _ _ _ _
 rw [strEqD_iff.1 h]
theorem cl_sb {a : D} {i : Nat} {j c : Nat} (hi : i ≤ len a) (hj : j < i) : cl (sb a 0 i) j c = cl a j c := by
 have hi' : i ≤ a.rows.length := hi
 show (((a.rows.drop 0).take (i - 0)).getD j default).cells.getD c default = (a.rows.getD j default).cells.getD c default
 rw [List.getD_eq_getElem?_getD, List.getD_eq_getElem?_getD, List.getElem?_take]
 simp [hj]
theorem law_up {P : Program} {ts : List TypeId} {xs : List D} {ks : List Kd} {o : Option Nat} (h : LawArgsUp o P ts xs) (hk : allKinds (Env.of P) ts = some ks) : ks.length = xs.length ∧ CanL (Env.of P).kinds 9 ks xs ∧ ShL (Env.of P).kinds o 9 ks xs := by
 obtain ⟨ks', cs, M, e, hd, hc, hs⟩ := h
 rw [hk] at e
 cases e
 exact ⟨hd.len.2, hc.2, hs⟩
theorem ShK.cell {K : TypeId → Option (List Kd)} {o : Option Nat} {m j : Nat} {e : TypeId} {ks : List Kd} {kd : Kd} {d : D} {i : Nat} (h : ShK K o (m + 1) (.slice e) d) (hk : K e = some ks) (hi : i < len d) (hj : ks[j]? = some kd) : ShK K o m kd (cl d i j) := h ks hk i hi j kd hj
theorem ShK.text {K : TypeId → Option (List Kd)} {b m : Nat} {d : D} (h : ShK K (some b) m .str d) : slen d ≤ b := by
 have : leB (some b) (slen d) := by cases m <;> exact h
 exact this b rfl
end Go.AE
set_option maxRecDepth 100000
namespace Ch
open Go Go.AE
theorem lt : tabsLt 0 ts = true := by decide
section
variable [While]
def f0_0 : D := gAll ts 0 (.row [.int (0 : Nat)])
def f1_0 (v0 : D) : D := gAll ts 1 (.row [.int (0 : Nat), v0])
def f1_1 (v0 v1 v2 : D) : D := gAll ts 1 (.row [.int (1 : Nat), v0, v1, v2])
def f2_0 (v0 v1 : D) : D := gAll ts 2 (.row [.int (0 : Nat), v0, v1])
def f2_1 (v0 v1 v2 : D) : D := gAll ts 2 (.row [.int (1 : Nat), v0, v1, v2])
def f3_0 (v0 v1 v2 v3 v4 v5 v6 : D) : D := gAll ts 3 (.row [.int (0 : Nat), v0, v1, v2, v3, v4, v5, v6])
def f3_1 (v0 v1 v2 v3 v4 v5 : D) : D := gAll ts 3 (.row [.int (1 : Nat), v0, v1, v2, v3, v4, v5])
def f4_0 (v0 v1 : D) : D := gAll ts 4 (.row [.int (0 : Nat), v0, v1])
def f4_1 (v0 v1 v2 : D) : D := gAll ts 4 (.row [.int (1 : Nat), v0, v1, v2])
def f5_0 (v0 v1 v2 v3 v4 v5 v6 : D) : D := gAll ts 5 (.row [.int (0 : Nat), v0, v1, v2, v3, v4, v5, v6])
def f5_1 (v0 v1 v2 v3 v4 v5 : D) : D := gAll ts 5 (.row [.int (1 : Nat), v0, v1, v2, v3, v4, v5])
def f6_0 (v0 v1 v2 v3 v4 v5 v6 v7 v8 v9 : D) : D := gAll ts 6 (.row [.int (0 : Nat), v0, v1, v2, v3, v4, v5, v6, v7, v8, v9])
def f6_1 (v0 v1 v2 v3 v4 v5 v6 v7 v8 v9 v10 : D) : D := gAll ts 6 (.row [.int (1 : Nat), v0, v1, v2, v3, v4, v5, v6, v7, v8, v9, v10])
def f7_0 (v0 v1 v2 v3 v4 v5 v6 : D) : D := gAll ts 7 (.row [.int (0 : Nat), v0, v1, v2, v3, v4, v5, v6])
def f7_1 (v0 v1 v2 v3 v4 v5 : D) : D := gAll ts 7 (.row [.int (1 : Nat), v0, v1, v2, v3, v4, v5])
def f8_0 (v0 v1 v2 v3 v4 v5 v6 v7 : D) : D := gAll ts 8 (.row [.int (0 : Nat), v0, v1, v2, v3, v4, v5, v6, v7])
def f9_0 (v0 v1 v2 : D) : D := gAll ts 9 (.row [.int (0 : Nat), v0, v1, v2])
def f9_1 (v0 v1 v2 v3 : D) : D := gAll ts 9 (.row [.int (1 : Nat), v0, v1, v2, v3])
def f10_0 (v0 : D) : D := gAll ts 10 (.row [.int (0 : Nat), v0])
def f10_1 (v0 v1 v2 v3 : D) : D := gAll ts 10 (.row [.int (1 : Nat), v0, v1, v2, v3])
def f11_0 (v0 : D) : D := gAll ts 11 (.row [.int (0 : Nat), v0])
def f12_0 (v0 v1 v2 v3 : D) : D := gAll ts 12 (.row [.int (0 : Nat), v0, v1, v2, v3])
def f12_1 (v0 v1 v2 v3 v4 : D) : D := gAll ts 12 (.row [.int (1 : Nat), v0, v1, v2, v3, v4])
def f12_2 (v0 v1 v2 v3 v4 v5 : D) : D := gAll ts 12 (.row [.int (2 : Nat), v0, v1, v2, v3, v4, v5])
def f13_0 (v0 v1 v2 v3 v4 v5 v6 v7 v8 : D) : D := gAll ts 13 (.row [.int (0 : Nat), v0, v1, v2, v3, v4, v5, v6, v7, v8])
def f15_0 (v0 v1 v2 v3 : D) : D := gAll ts 15 (.row [.int (0 : Nat), v0, v1, v2, v3])
def f16_0 (v0 v1 v2 v3 v4 v5 v6 v7 v8 v9 v10 v11 : D) : D := gAll ts 16 (.row [.int (0 : Nat), v0, v1, v2, v3, v4, v5, v6, v7, v8, v9, v10, v11])
def f17_0 (v0 v1 v2 v3 v4 v5 v6 v7 v8 : D) : D := gAll ts 17 (.row [.int (0 : Nat), v0, v1, v2, v3, v4, v5, v6, v7, v8])
def f17_1 (v0 v1 v2 v3 v4 v5 v6 v7 v8 v9 : D) : D := gAll ts 17 (.row [.int (1 : Nat), v0, v1, v2, v3, v4, v5, v6, v7, v8, v9])
def f17_2 (v0 v1 v2 v3 v4 v5 v6 v7 v8 v9 v10 v11 v12 v13 v14 : D) : D := gAll ts 17 (.row [.int (2 : Nat), v0, v1, v2, v3, v4, v5, v6, v7, v8, v9, v10, v11, v12, v13, v14])
def f18_0 (v0 v1 v2 v3 v4 v5 v6 v7 v8 : D) : D := gAll ts 18 (.row [.int (0 : Nat), v0, v1, v2, v3, v4, v5, v6, v7, v8])
def f19_0 (v0 v1 : D) : D := gAll ts 19 (.row [.int (0 : Nat), v0, v1])
def f19_1 (v0 v1 v2 : D) : D := gAll ts 19 (.row [.int (1 : Nat), v0, v1, v2])
def f20_0 (v0 v1 v2 v3 v4 v5 v6 v7 v8 v9 v10 v11 : D) : D := gAll ts 20 (.row [.int (0 : Nat), v0, v1, v2, v3, v4, v5, v6, v7, v8, v9, v10, v11])
def f21_0 (v0 v1 v2 v3 : D) : D := gAll ts 21 (.row [.int (0 : Nat), v0, v1, v2, v3])
def f21_1 (v0 v1 v2 v3 v4 : D) : D := gAll ts 21 (.row [.int (1 : Nat), v0, v1, v2, v3, v4])
def f22_0 (v0 v1 v2 v3 v4 v5 v6 v7 v8 v9 : D) : D := gAll ts 22 (.row [.int (0 : Nat), v0, v1, v2, v3, v4, v5, v6, v7, v8, v9])
def f23_0 (v0 v1 v2 v3 v4 v5 v6 v7 v8 v9 v10 v11 : D) : D := gAll ts 23 (.row [.int (0 : Nat), v0, v1, v2, v3, v4, v5, v6, v7, v8, v9, v10, v11])
def f23_1 (v0 v1 v2 v3 v4 v5 v6 v7 v8 v9 v10 v11 v12 v13 v14 v15 : D) : D := gAll ts 23 (.row [.int (1 : Nat), v0, v1, v2, v3, v4, v5, v6, v7, v8, v9, v10, v11, v12, v13, v14, v15])
def f24_0 (v0 v1 v2 v3 v4 v5 v6 : D) : D := gAll ts 24 (.row [.int (0 : Nat), v0, v1, v2, v3, v4, v5, v6])
def f24_1 (v0 v1 v2 v3 v4 v5 v6 v7 v8 v9 v10 : D) : D := gAll ts 24 (.row [.int (1 : Nat), v0, v1, v2, v3, v4, v5, v6, v7, v8, v9, v10])
def f24_2 (v0 v1 v2 v3 v4 v5 v6 v7 v8 v9 : D) : D := gAll ts 24 (.row [.int (2 : Nat), v0, v1, v2, v3, v4, v5, v6, v7, v8, v9])
def f25_0 (v0 v1 v2 v3 v4 v5 v6 v7 v8 : D) : D := gAll ts 25 (.row [.int (0 : Nat), v0, v1, v2, v3, v4, v5, v6, v7, v8])
def f26_0 (v0 v1 v2 v3 : D) : D := gAll ts 26 (.row [.int (0 : Nat), v0, v1, v2, v3])
def f26_1 (v0 v1 v2 v3 v4 v5 v6 v7 v8 v9 : D) : D := gAll ts 26 (.row [.int (1 : Nat), v0, v1, v2, v3, v4, v5, v6, v7, v8, v9])
def f27_0 (v0 : D) : D := gAll ts 27 (.row [.int (0 : Nat), v0])
def f27_1 (v0 v1 : D) : D := gAll ts 27 (.row [.int (1 : Nat), v0, v1])
def f28_0 (v0 v1 v2 v3 v4 : D) : D := gAll ts 28 (.row [.int (0 : Nat), v0, v1, v2, v3, v4])
def f28_1 (v0 v1 v2 v3 v4 v5 : D) : D := gAll ts 28 (.row [.int (1 : Nat), v0, v1, v2, v3, v4, v5])
def f29_0 (v0 v1 v2 v3 v4 : D) : D := gAll ts 29 (.row [.int (0 : Nat), v0, v1, v2, v3, v4])
def f29_1 (v0 v1 v2 v3 v4 v5 : D) : D := gAll ts 29 (.row [.int (1 : Nat), v0, v1, v2, v3, v4, v5])
def f30_0 (v0 v1 v2 v3 v4 : D) : D := gAll ts 30 (.row [.int (0 : Nat), v0, v1, v2, v3, v4])
def f30_1 (v0 v1 v2 v3 v4 v5 v6 v7 v8 v9 v10 v11 v12 v13 v14 v15 : D) : D := gAll ts 30 (.row [.int (1 : Nat), v0, v1, v2, v3, v4, v5, v6, v7, v8, v9, v10, v11, v12, v13, v14, v15])
def f31_0 (v0 v1 v2 v3 : D) : D := gAll ts 31 (.row [.int (0 : Nat), v0, v1, v2, v3])
def f31_1 (v0 v1 v2 v3 v4 : D) : D := gAll ts 31 (.row [.int (1 : Nat), v0, v1, v2, v3, v4])
def f31_2 (v0 v1 v2 v3 v4 : D) : D := gAll ts 31 (.row [.int (2 : Nat), v0, v1, v2, v3, v4])
def f31_3 (v0 v1 v2 v3 v4 : D) : D := gAll ts 31 (.row [.int (3 : Nat), v0, v1, v2, v3, v4])
def f32_0 (v0 v1 v2 v3 v4 : D) : D := gAll ts 32 (.row [.int (0 : Nat), v0, v1, v2, v3, v4])
def f32_1 (v0 v1 v2 v3 v4 v5 : D) : D := gAll ts 32 (.row [.int (1 : Nat), v0, v1, v2, v3, v4, v5])
def f34_0 (v0 v1 v2 v3 v4 : D) : D := gAll ts 34 (.row [.int (0 : Nat), v0, v1, v2, v3, v4])
def f34_1 (v0 v1 v2 v3 v4 v5 : D) : D := gAll ts 34 (.row [.int (1 : Nat), v0, v1, v2, v3, v4, v5])
def f35_0 (v0 v1 v2 v3 v4 : D) : D := gAll ts 35 (.row [.int (0 : Nat), v0, v1, v2, v3, v4])
def f35_1 (v0 v1 v2 v3 v4 v5 : D) : D := gAll ts 35 (.row [.int (1 : Nat), v0, v1, v2, v3, v4, v5])
def f36_0 (v0 v1 v2 v3 v4 v5 : D) : D := gAll ts 36 (.row [.int (0 : Nat), v0, v1, v2, v3, v4, v5])
def f36_1 (v0 v1 v2 v3 v4 v5 v6 v7 v8 : D) : D := gAll ts 36 (.row [.int (1 : Nat), v0, v1, v2, v3, v4, v5, v6, v7, v8])
def f37_0 (v0 v1 v2 v3 : D) : D := gAll ts 37 (.row [.int (0 : Nat), v0, v1, v2, v3])
def f37_1 (v0 v1 v2 v3 v4 v5 v6 v7 : D) : D := gAll ts 37 (.row [.int (1 : Nat), v0, v1, v2, v3, v4, v5, v6, v7])
def f37_2 (v0 v1 v2 v3 v4 v5 v6 v7 v8 v9 v10 : D) : D := gAll ts 37 (.row [.int (2 : Nat), v0, v1, v2, v3, v4, v5, v6, v7, v8, v9, v10])
def f38_0 (v0 v1 v2 v3 : D) : D := gAll ts 38 (.row [.int (0 : Nat), v0, v1, v2, v3])
def f38_1 (v0 v1 v2 v3 v4 : D) : D := gAll ts 38 (.row [.int (1 : Nat), v0, v1, v2, v3, v4])
def f39_0 (v0 v1 v2 v3 : D) : D := gAll ts 39 (.row [.int (0 : Nat), v0, v1, v2, v3])
def f39_1 (v0 v1 v2 v3 v4 : D) : D := gAll ts 39 (.row [.int (1 : Nat), v0, v1, v2, v3, v4])
theorem e0_0 : f0_0 =
 .row [.int 1] :=
 (g_walk lt (T := t0) (t := t0p0) rfl rfl).trans rfl
theorem e1_0 (v0 : D) : f1_0 v0 =
  cond (decide ((slen v0 : Int) < 1)) (
 .row [.int 1, (.bool false)]) (
 cond (decide (32 < (slen v0 : Int))) (
 .row [.int 1, (.bool false)]) (
 f1_1 (byts v0) (.int (len (byts v0) : Int)) (.int 0))) :=
  (g_walk lt (T := t1) (t := t1p0) rfl rfl).trans (cg (lE rfl rfl) rfl (cg (lE rfl rfl) rfl rfl))
theorem e1_1 (v0 : D) (v1 : Int) (v2 : Int) : f1_1 v0 (.int v1) (.int v2) =
  cond (decide (v2 < v1)) (
 cond (decide (v2 < 0)) (
 .row []) (
 cond (decide (v2 < (len v0 : Int))) (
 cond (decide ((IntKind.wrap .u8 (cl v0 v2 0).toInt) < 97)) (
 cond (decide ((IntKind.wrap .u8 (cl v0 v2 0).toInt) < 65)) (
 cond (decide (v2 = 0)) (
 .row [.int 1, (.bool false)]) (
 cond (decide ((IntKind.wrap .u8 (cl v0 v2 0).toInt) < 48)) (
 .row [.int 1, (.bool false)]) (
 cond (decide (57 < (IntKind.wrap .u8 (cl v0 v2 0).toInt))) (
 .row [.int 1, (.bool false)]) (
 f1_1 v0 (.int v1) (.int (IntKind.wrap .i64 (v2 + 1))))))) (
 cond (decide (90 < (IntKind.wrap .u8 (cl v0 v2 0).toInt))) (
 cond (decide (v2 = 0)) (
 .row [.int 1, (.bool false)]) (
 cond (decide ((IntKind.wrap .u8 (cl v0 v2 0).toInt) = 95)) (
 f1_1 v0 (.int v1) (.int (IntKind.wrap .i64 (v2 + 1)))) (
 .row [.int 1, (.bool false)]))) (
 f1_1 v0 (.int v1) (.int (IntKind.wrap .i64 (v2 + 1)))))) (
 cond (decide (122 < (IntKind.wrap .u8 (cl v0 v2 0).toInt))) (
 cond (decide (v2 = 0)) (
 .row [.int 1, (.bool false)]) (
 .row [.int 1, (.bool false)])) (
 f1_1 v0 (.int v1) (.int (IntKind.wrap .i64 (v2 + 1)))))) (
 .row []))) (
 .row [.int 1, (.bool true)]) :=
  (g_walk lt (T := t1) (t := t1p1) rfl rfl).trans (cg (lE rfl rfl) (cg (lE rfl rfl) rfl (cg (lE rfl rfl) (cg (lE rfl rfl) (cg (lE rfl rfl) (cg (qE rfl rfl) rfl (cg (lE rfl rfl) rfl (cg (lE rfl rfl) rfl rfl))) (cg (lE rfl rfl) (cg (qE rfl rfl) rfl (cg (qE rfl rfl) rfl rfl)) rfl)) (cg (lE rfl rfl) (cg (qE rfl rfl) rfl rfl) rfl)) rfl)) rfl)
theorem e2_0 (v0 : D) (v1 : D) : f2_0 v0 v1 =
 f2_1 v0 (.int 0) v1 :=
 (g_walk lt (T := t2) (t := t2p0) rfl rfl).trans rfl
theorem e2_1 (v0 : D) (v1 : Int) (v2 : D) : f2_1 v0 (.int v1) v2 =
  cond (decide (v1 < (len v0 : Int))) (
 cond (decide (v1 < 0)) (
 .row []) (
 cond (D.strEq (cl v0 v1 0) v2) (
 .row [.int 1, (.int v1)]) (
 f2_1 v0 (.int (IntKind.wrap .i64 (v1 + 1))) v2))) (
 .row [.int 1, (.int (-1))]) :=
  (g_walk lt (T := t2) (t := t2p1) rfl rfl).trans (cg (lE rfl rfl) (cg (lE rfl rfl) rfl (cg rfl rfl rfl)) rfl)
theorem e3_0 (v0 : Int) (v1 : Int) (v2 : Int) (v3 : D) (v4 : D) (v5 : D) (v6 : D) : f3_0 (.int v0) (.int v1) (.int v2) v3 v4 v5 v6 =
  cond (decide (v0 < v1)) (
 .row [.int 1, (.int 0)]) (
 cond (decide (v2 < v0)) (
 .row [.int 1, (.int v2)]) (
 f3_1 (.int v0) (.int 0) v3 v4 v5 v6)) :=
  (g_walk lt (T := t3) (t := t3p0) rfl rfl).trans (cg (lE rfl rfl) rfl (cg (lE rfl rfl) rfl rfl))
theorem e3_1 (v0 : Int) (v1 : Int) (v2 : D) (v3 : D) (v4 : D) (v5 : D) : f3_1 (.int v0) (.int v1) v2 v3 v4 v5 =
  cond (decide (v1 < v0)) (
 cond (decide (v1 < 0)) (
 .row []) (
 cond (decide (v1 < (len v4 : Int))) (
 cond (decide ((sl (f1_0 (cl v4 v1 0)) 0).toInt = 1)) (
 cond ((sl (f1_0 (cl v4 v1 0)) 1).toBool) (
 cond (decide ((sl (f2_0 v4 (cl v4 v1 0)) 0).toInt = 1)) (
 cond (decide ((sl (f2_0 v4 (cl v4 v1 0)) 1).toInt < v1)) (
 .row [.int 1, (.int v1)]) (
 cond (decide ((cl v4 v1 1).toInt < 1)) (
 .row [.int 1, (.int v1)]) (
 cond (decide (1000 < (cl v4 v1 1).toInt)) (
 .row [.int 1, (.int v1)]) (
 f3_1 (.int v0) (.int (IntKind.wrap .i64 (v1 + 1))) v2 v3 v4 v5)))) (
 .row [])) (
 .row [.int 1, (.int v1)])) (
 .row [])) (
 .row []))) (
 .row [.int 1, (.int (-1))]) :=
  (g_walk lt (T := t3) (t := t3p1) rfl rfl).trans (cg (lE rfl rfl) (cg (lE rfl rfl) rfl (cg (lE rfl rfl) (cg (qE rfl rfl) (cg rfl (cg (qE rfl rfl) (cg (lE rfl rfl) rfl (cg (lE rfl rfl) rfl (cg (lE rfl rfl) rfl rfl))) rfl) rfl) rfl) rfl)) rfl)
theorem e4_0 (v0 : D) (v1 : D) : f4_0 v0 v1 =
 f4_1 v0 (.int 0) v1 :=
 (g_walk lt (T := t4) (t := t4p0) rfl rfl).trans rfl
theorem e4_1 (v0 : D) (v1 : Int) (v2 : D) : f4_1 v0 (.int v1) v2 =
  cond (decide (v1 < (len v0 : Int))) (
 cond (decide (v1 < 0)) (
 .row []) (
 cond (D.strEq (cl v0 v1 0) v2) (
 .row [.int 1, (.int v1)]) (
 f4_1 v0 (.int (IntKind.wrap .i64 (v1 + 1))) v2))) (
 .row [.int 1, (.int (-1))]) :=
  (g_walk lt (T := t4) (t := t4p1) rfl rfl).trans (cg (lE rfl rfl) (cg (lE rfl rfl) rfl (cg rfl rfl rfl)) rfl)
theorem e5_0 (v0 : Int) (v1 : Int) (v2 : Int) (v3 : D) (v4 : D) (v5 : D) (v6 : D) : f5_0 (.int v0) (.int v1) (.int v2) v3 v4 v5 v6 =
  cond (decide (v0 < v1)) (
 .row [.int 1, (.int 0)]) (
 cond (decide (v2 < v0)) (
 .row [.int 1, (.int v2)]) (
 f5_1 (.int v0) (.int 0) v3 v4 v5 v6)) :=
  (g_walk lt (T := t5) (t := t5p0) rfl rfl).trans (cg (lE rfl rfl) rfl (cg (lE rfl rfl) rfl rfl))
theorem e5_1 (v0 : Int) (v1 : Int) (v2 : D) (v3 : D) (v4 : D) (v5 : D) : f5_1 (.int v0) (.int v1) v2 v3 v4 v5 =
  cond (decide (v1 < v0)) (
 cond (decide (v1 < 0)) (
 .row []) (
 cond (decide (v1 < (len v3 : Int))) (
 cond (decide ((sl (f1_0 (cl v3 v1 0)) 0).toInt = 1)) (
 cond ((sl (f1_0 (cl v3 v1 0)) 1).toBool) (
 cond (decide ((sl (f4_0 v3 (cl v3 v1 0)) 0).toInt = 1)) (
 cond (decide ((sl (f4_0 v3 (cl v3 v1 0)) 1).toInt < v1)) (
 .row [.int 1, (.int v1)]) (
 cond (decide ((cl v3 v1 2).toInt < 0)) (
 .row [.int 1, (.int v1)]) (
 cond (decide (1048576 < (cl v3 v1 2).toInt)) (
 .row [.int 1, (.int v1)]) (
 f5_1 (.int v0) (.int (IntKind.wrap .i64 (v1 + 1))) v2 v3 v4 v5)))) (
 .row [])) (
 .row [.int 1, (.int v1)])) (
 .row [])) (
 .row []))) (
 .row [.int 1, (.int (-1))]) :=
  (g_walk lt (T := t5) (t := t5p1) rfl rfl).trans (cg (lE rfl rfl) (cg (lE rfl rfl) rfl (cg (lE rfl rfl) (cg (qE rfl rfl) (cg rfl (cg (qE rfl rfl) (cg (lE rfl rfl) rfl (cg (lE rfl rfl) rfl (cg (lE rfl rfl) rfl rfl))) rfl) rfl) rfl) rfl)) rfl)
theorem e6_0 (v0 : D) (v1 : D) (v2 : D) (v3 : Int) (v4 : D) (v5 : D) (v6 : D) (v7 : Int) (v8 : Int) (v9 : Int) : f6_0 v0 v1 v2 (.int v3) v4 v5 v6 (.int v7) (.int v8) (.int v9) =
 f6_1 v0 (.int 0) v1 v2 (.int v3) v4 v5 v6 (.int v7) (.int v8) (.int v9) :=
 (g_walk lt (T := t6) (t := t6p0) rfl rfl).trans rfl
theorem e6_1 (v0 : D) (v1 : Int) (v2 : D) (v3 : D) (v4 : Int) (v5 : D) (v6 : D) (v7 : D) (v8 : Int) (v9 : Int) (v10 : Int) : f6_1 v0 (.int v1) v2 v3 (.int v4) v5 v6 v7 (.int v8) (.int v9) (.int v10) =
  cond (decide (v1 < (len v0 : Int))) (
 cond (decide (v1 < 0)) (
 .row []) (
 cond ((D.strEq v2 (cl v0 v1 0) && (D.strEq v3 (cl v0 v1 1) && (decide (v4 = (cl v0 v1 2).toInt) && (D.strEq v5 (cl v0 v1 3) && (D.strEq v6 (cl v0 v1 4) && (D.strEq v7 (cl v0 v1 5) && (decide (v8 = (cl v0 v1 6).toInt) && (decide (v9 = (cl v0 v1 7).toInt) && decide (v10 = (cl v0 v1 8).toInt)))))))))) (
 .row [.int 1, (.int v1)]) (
 f6_1 v0 (.int (IntKind.wrap .i64 (v1 + 1))) v2 v3 (.int v4) v5 v6 v7 (.int v8) (.int v9) (.int v10)))) (
 .row [.int 1, (.int (-1))]) :=
  (g_walk lt (T := t6) (t := t6p1) rfl rfl).trans (cg (lE rfl rfl) (cg (lE rfl rfl) rfl (cg (aE rfl (aE rfl (aE (qE rfl rfl) (aE rfl (aE rfl (aE rfl (aE (qE rfl rfl) (aE (qE rfl rfl) (qE rfl rfl))))))))) rfl rfl)) rfl)
theorem e7_0 (v0 : Int) (v1 : Int) (v2 : Int) (v3 : D) (v4 : D) (v5 : D) (v6 : D) : f7_0 (.int v0) (.int v1) (.int v2) v3 v4 v5 v6 =
  cond (decide (v0 < v1)) (
 .row [.int 1, (.int 0)]) (
 cond (decide (v2 < v0)) (
 .row [.int 1, (.int v2)]) (
 f7_1 (.int v0) (.int 0) v3 v4 v5 v6)) :=
  (g_walk lt (T := t7) (t := t7p0) rfl rfl).trans (cg (lE rfl rfl) rfl (cg (lE rfl rfl) rfl rfl))
theorem e7_1 (v0 : Int) (v1 : Int) (v2 : D) (v3 : D) (v4 : D) (v5 : D) {F0 : D} {F1 : D} {F2 : D} (h0 : f6_0 (sb v5 0 v1) (cl v5 v1 0) (cl v5 v1 1) (cl v5 v1 2) (cl v5 v1 3) (cl v5 v1 4) (cl v5 v1 5) (cl v5 v1 6) (cl v5 v1 7) (cl v5 v1 8) = F0) (h1 : f2_0 v4 (cl v5 v1 5) = F1) (h2 : f4_0 v3 (cl v5 v1 0) = F2) : f7_1 (.int v0) (.int v1) v2 v3 v4 v5 =
  cond (decide (v1 < v0)) (
 cond (decide (v1 < 0)) (
 .row []) (
 cond (decide (v1 < (len v5 : Int))) (
 cond (decide ((cl v5 v1 2).toInt = 1)) (
 cond (decide ((sl F2 0).toInt = 1)) (
 cond (decide ((sl F1 0).toInt = 1)) (
 cond (decide ((sl F2 1).toInt < 0)) (
 .row [.int 1, (.int v1)]) (
 cond (decide ((sl (f4_0 v3 (cl v5 v1 1)) 0).toInt = 1)) (
 cond (decide ((sl (f4_0 v3 (cl v5 v1 1)) 1).toInt < 0)) (
 .row [.int 1, (.int v1)]) (
 cond (decide ((len v5 : Int) < v1)) (
 .row []) (
 cond (decide ((sl F0 0).toInt = 1)) (
 cond (decide ((sl F0 1).toInt < 0)) (
 cond (decide ((sl F2 1).toInt < (len v3 : Int))) (
 cond (decide ((sl (f1_0 (cl v5 v1 3)) 0).toInt = 1)) (
 cond ((sl (f1_0 (cl v5 v1 3)) 1).toBool) (
 cond (decide ((sl (f1_0 (cl v5 v1 4)) 0).toInt = 1)) (
 cond ((sl (f1_0 (cl v5 v1 4)) 1).toBool) (
 cond (D.strEq (cl v5 v1 4) v2) (
 .row [.int 1, (.int v1)]) (
 cond (eqC (cl v5 v1 5) 0 0) (
 cond (decide ((cl v5 v1 6).toInt = 0)) (
 cond (decide ((cl v5 v1 7).toInt = 0)) (
 cond (decide ((cl v5 v1 8).toInt = 0)) (
 f7_1 (.int v0) (.int (IntKind.wrap .i64 (v1 + 1))) v2 v3 v4 v5) (
 .row [.int 1, (.int v1)])) (
 .row [.int 1, (.int v1)])) (
 .row [.int 1, (.int v1)])) (
 cond (decide ((sl F1 1).toInt < 0)) (
 .row [.int 1, (.int v1)]) (
 cond (decide ((cl v5 v1 6).toInt < 0)) (
 .row [.int 1, (.int v1)]) (
 cond (decide ((cl v5 v1 7).toInt < (cl v5 v1 6).toInt)) (
 .row [.int 1, (.int v1)]) (
 cond (decide ((cl v5 v1 8).toInt < (-1000))) (
 .row [.int 1, (.int v1)]) (
 cond (decide (1000 < (cl v5 v1 8).toInt)) (
 .row [.int 1, (.int v1)]) (
 cond (decide ((sl F1 1).toInt < (len v4 : Int))) (
 cond (decide ((cl v4 (sl F1 1).toInt 1).toInt < (cl v5 v1 7).toInt)) (
 .row [.int 1, (.int v1)]) (
 cond (decide ((IntKind.wrap .i64 ((cl v5 v1 6).toInt + (cl v5 v1 8).toInt)) < 0)) (
 .row [.int 1, (.int v1)]) (
 cond (decide ((cl v4 (sl F1 1).toInt 1).toInt < (IntKind.wrap .i64 ((cl v5 v1 7).toInt + (cl v5 v1 8).toInt)))) (
 .row [.int 1, (.int v1)]) (
 f7_1 (.int v0) (.int (IntKind.wrap .i64 (v1 + 1))) v2 v3 v4 v5)))) (
 .row []))))))))) (
 .row [.int 1, (.int v1)])) (
 .row [])) (
 .row [.int 1, (.int v1)])) (
 .row [])) (
 .row [])) (
 .row [.int 1, (.int v1)])) (
 .row [])))) (
 .row []))) (
 .row [])) (
 .row [])) (
 cond (decide ((cl v5 v1 2).toInt = 2)) (
 cond (decide ((sl F2 0).toInt = 1)) (
 cond (decide ((sl F1 0).toInt = 1)) (
 cond (decide ((sl F2 1).toInt < 0)) (
 .row [.int 1, (.int v1)]) (
 cond (decide ((sl (f4_0 v3 (cl v5 v1 1)) 0).toInt = 1)) (
 cond (decide ((sl (f4_0 v3 (cl v5 v1 1)) 1).toInt < 0)) (
 .row [.int 1, (.int v1)]) (
 cond (decide ((len v5 : Int) < v1)) (
 .row []) (
 cond (decide ((sl F0 0).toInt = 1)) (
 cond (decide ((sl F0 1).toInt < 0)) (
 cond (decide ((sl F2 1).toInt < (len v3 : Int))) (
 cond (decide ((sl (f1_0 (cl v5 v1 3)) 0).toInt = 1)) (
 cond ((sl (f1_0 (cl v5 v1 3)) 1).toBool) (
 cond (decide ((sl (f1_0 (cl v5 v1 4)) 0).toInt = 1)) (
 cond ((sl (f1_0 (cl v5 v1 4)) 1).toBool) (
 cond (D.strEq (cl v5 v1 4) v2) (
 .row [.int 1, (.int v1)]) (
 cond (eqC (cl v5 v1 5) 0 0) (
 cond (decide ((cl v5 v1 6).toInt = 0)) (
 cond (decide ((cl v5 v1 7).toInt = 0)) (
 cond (decide ((cl v5 v1 8).toInt = 0)) (
 f7_1 (.int v0) (.int (IntKind.wrap .i64 (v1 + 1))) v2 v3 v4 v5) (
 .row [.int 1, (.int v1)])) (
 .row [.int 1, (.int v1)])) (
 .row [.int 1, (.int v1)])) (
 cond (decide ((sl F1 1).toInt < 0)) (
 .row [.int 1, (.int v1)]) (
 cond (decide ((cl v5 v1 6).toInt < 0)) (
 .row [.int 1, (.int v1)]) (
 cond (decide ((cl v5 v1 7).toInt < (cl v5 v1 6).toInt)) (
 .row [.int 1, (.int v1)]) (
 cond (decide ((cl v5 v1 8).toInt < (-1000))) (
 .row [.int 1, (.int v1)]) (
 cond (decide (1000 < (cl v5 v1 8).toInt)) (
 .row [.int 1, (.int v1)]) (
 cond (decide ((sl F1 1).toInt < (len v4 : Int))) (
 cond (decide ((cl v4 (sl F1 1).toInt 1).toInt < (cl v5 v1 7).toInt)) (
 .row [.int 1, (.int v1)]) (
 cond (decide ((IntKind.wrap .i64 ((cl v5 v1 6).toInt + (cl v5 v1 8).toInt)) < 0)) (
 .row [.int 1, (.int v1)]) (
 cond (decide ((cl v4 (sl F1 1).toInt 1).toInt < (IntKind.wrap .i64 ((cl v5 v1 7).toInt + (cl v5 v1 8).toInt)))) (
 .row [.int 1, (.int v1)]) (
 f7_1 (.int v0) (.int (IntKind.wrap .i64 (v1 + 1))) v2 v3 v4 v5)))) (
 .row []))))))))) (
 .row [.int 1, (.int v1)])) (
 .row [])) (
 .row [.int 1, (.int v1)])) (
 .row [])) (
 .row [])) (
 .row [.int 1, (.int v1)])) (
 .row [])))) (
 .row []))) (
 .row [])) (
 .row [])) (
 cond (decide ((cl v5 v1 2).toInt = 3)) (
 cond (decide ((sl F2 0).toInt = 1)) (
 cond (decide ((sl F1 0).toInt = 1)) (
 cond (decide ((sl F2 1).toInt < 0)) (
 .row [.int 1, (.int v1)]) (
 cond (decide ((sl (f4_0 v3 (cl v5 v1 1)) 0).toInt = 1)) (
 cond (decide ((sl (f4_0 v3 (cl v5 v1 1)) 1).toInt < 0)) (
 .row [.int 1, (.int v1)]) (
 cond (decide ((len v5 : Int) < v1)) (
 .row []) (
 cond (decide ((sl F0 0).toInt = 1)) (
 cond (decide ((sl F0 1).toInt < 0)) (
 cond (decide ((sl F2 1).toInt < (len v3 : Int))) (
 cond (decide (0 < (cl v3 (sl F2 1).toInt 2).toInt)) (
 cond (decide ((slen (cl v5 v1 3) : Int) < 4611686018427387904)) (
 cond (decide ((slen (cl v5 v1 4) : Int) < 4611686018427387904)) (
 cond (eqC (sCat (cl v5 v1 3) (cl v5 v1 4)) 0 0) (
 cond (eqC (cl v5 v1 5) 0 0) (
 cond (decide ((cl v5 v1 6).toInt = 0)) (
 cond (decide ((cl v5 v1 7).toInt = 0)) (
 cond (decide ((cl v5 v1 8).toInt = 0)) (
 f7_1 (.int v0) (.int (IntKind.wrap .i64 (v1 + 1))) v2 v3 v4 v5) (
 .row [.int 1, (.int v1)])) (
 .row [.int 1, (.int v1)])) (
 .row [.int 1, (.int v1)])) (
 cond (decide ((sl F1 1).toInt < 0)) (
 .row [.int 1, (.int v1)]) (
 cond (decide ((cl v5 v1 6).toInt < 0)) (
 .row [.int 1, (.int v1)]) (
 cond (decide ((cl v5 v1 7).toInt < (cl v5 v1 6).toInt)) (
 .row [.int 1, (.int v1)]) (
 cond (decide ((cl v5 v1 8).toInt < (-1000))) (
 .row [.int 1, (.int v1)]) (
 cond (decide (1000 < (cl v5 v1 8).toInt)) (
 .row [.int 1, (.int v1)]) (
 cond (decide ((sl F1 1).toInt < (len v4 : Int))) (
 cond (decide ((cl v4 (sl F1 1).toInt 1).toInt < (cl v5 v1 7).toInt)) (
 .row [.int 1, (.int v1)]) (
 cond (decide ((IntKind.wrap .i64 ((cl v5 v1 6).toInt + (cl v5 v1 8).toInt)) < 0)) (
 .row [.int 1, (.int v1)]) (
 cond (decide ((cl v4 (sl F1 1).toInt 1).toInt < (IntKind.wrap .i64 ((cl v5 v1 7).toInt + (cl v5 v1 8).toInt)))) (
 .row [.int 1, (.int v1)]) (
 f7_1 (.int v0) (.int (IntKind.wrap .i64 (v1 + 1))) v2 v3 v4 v5)))) (
 .row [])))))))) (
 .row [.int 1, (.int v1)])) (
 .row [])) (
 .row [])) (
 .row [.int 1, (.int v1)])) (
 .row [])) (
 .row [.int 1, (.int v1)])) (
 .row [])))) (
 .row []))) (
 .row [])) (
 .row [])) (
 cond (decide ((cl v5 v1 2).toInt = 4)) (
 cond (decide ((sl F2 0).toInt = 1)) (
 cond (decide ((sl F1 0).toInt = 1)) (
 cond (decide ((sl F2 1).toInt < 0)) (
 .row [.int 1, (.int v1)]) (
 cond (decide ((sl (f4_0 v3 (cl v5 v1 1)) 0).toInt = 1)) (
 cond (decide ((sl (f4_0 v3 (cl v5 v1 1)) 1).toInt < 0)) (
 .row [.int 1, (.int v1)]) (
 cond (decide ((len v5 : Int) < v1)) (
 .row []) (
 cond (decide ((sl F0 0).toInt = 1)) (
 cond (decide ((sl F0 1).toInt < 0)) (
 cond (decide ((sl F2 1).toInt < (len v3 : Int))) (
 cond (decide ((slen (cl v5 v1 3) : Int) < 4611686018427387904)) (
 cond (decide ((slen (cl v5 v1 4) : Int) < 4611686018427387904)) (
 cond (eqC (sCat (cl v5 v1 3) (cl v5 v1 4)) 0 0) (
 cond (eqC (cl v5 v1 5) 0 0) (
 cond (decide ((cl v5 v1 6).toInt = 0)) (
 cond (decide ((cl v5 v1 7).toInt = 0)) (
 cond (decide ((cl v5 v1 8).toInt = 0)) (
 f7_1 (.int v0) (.int (IntKind.wrap .i64 (v1 + 1))) v2 v3 v4 v5) (
 .row [.int 1, (.int v1)])) (
 .row [.int 1, (.int v1)])) (
 .row [.int 1, (.int v1)])) (
 cond (decide ((sl F1 1).toInt < 0)) (
 .row [.int 1, (.int v1)]) (
 cond (decide ((cl v5 v1 6).toInt < 0)) (
 .row [.int 1, (.int v1)]) (
 cond (decide ((cl v5 v1 7).toInt < (cl v5 v1 6).toInt)) (
 .row [.int 1, (.int v1)]) (
 cond (decide ((cl v5 v1 8).toInt < (-1000))) (
 .row [.int 1, (.int v1)]) (
 cond (decide (1000 < (cl v5 v1 8).toInt)) (
 .row [.int 1, (.int v1)]) (
 cond (decide ((sl F1 1).toInt < (len v4 : Int))) (
 cond (decide ((cl v4 (sl F1 1).toInt 1).toInt < (cl v5 v1 7).toInt)) (
 .row [.int 1, (.int v1)]) (
 cond (decide ((IntKind.wrap .i64 ((cl v5 v1 6).toInt + (cl v5 v1 8).toInt)) < 0)) (
 .row [.int 1, (.int v1)]) (
 cond (decide ((cl v4 (sl F1 1).toInt 1).toInt < (IntKind.wrap .i64 ((cl v5 v1 7).toInt + (cl v5 v1 8).toInt)))) (
 .row [.int 1, (.int v1)]) (
 f7_1 (.int v0) (.int (IntKind.wrap .i64 (v1 + 1))) v2 v3 v4 v5)))) (
 .row [])))))))) (
 .row [.int 1, (.int v1)])) (
 .row [])) (
 .row [])) (
 .row [])) (
 .row [.int 1, (.int v1)])) (
 .row [])))) (
 .row []))) (
 .row [])) (
 .row [])) (
 cond (decide ((sl F2 0).toInt = 1)) (
 cond (decide ((sl F1 0).toInt = 1)) (
 .row [.int 1, (.int v1)]) (
 .row [])) (
 .row [])))))) (
 .row []))) (
 .row [.int 1, (.int (-1))]) := by
  subst h0; subst h1; subst h2; exact (g_walk lt (T := t7) (t := t7p1) rfl rfl).trans (cg (lE rfl rfl) (cg (lE rfl rfl) rfl (cg (lE rfl rfl) (cg (qE rfl rfl) (cg (qE rfl rfl) (cg (qE rfl rfl) (cg (lE rfl rfl) rfl (cg (qE rfl rfl) (cg (lE rfl rfl) rfl (cg (lE rfl rfl) rfl (cg (qE rfl rfl) (cg (lE rfl rfl) (cg (lE rfl rfl) (cg (qE rfl rfl) (cg rfl (cg (qE rfl rfl) (cg rfl (cg rfl rfl (cg rfl (cg (qE rfl rfl) (cg (qE rfl rfl) (cg (qE rfl rfl) rfl rfl) rfl) rfl) (cg (lE rfl rfl) rfl (cg (lE rfl rfl) rfl (cg (lE rfl rfl) rfl (cg (lE rfl rfl) rfl (cg (lE rfl rfl) rfl (cg (lE rfl rfl) (cg (lE rfl rfl) rfl (cg (lE rfl rfl) rfl (cg (lE rfl rfl) rfl rfl))) rfl)))))))) rfl) rfl) rfl) rfl) rfl) rfl) rfl))) rfl)) rfl) rfl) (cg (qE rfl rfl) (cg (qE rfl rfl) (cg (qE rfl rfl) (cg (lE rfl rfl) rfl (cg (qE rfl rfl) (cg (lE rfl rfl) rfl (cg (lE rfl rfl) rfl (cg (qE rfl rfl) (cg (lE rfl rfl) (cg (lE rfl rfl) (cg (qE rfl rfl) (cg rfl (cg (qE rfl rfl) (cg rfl (cg rfl rfl (cg rfl (cg (qE rfl rfl) (cg (qE rfl rfl) (cg (qE rfl rfl) rfl rfl) rfl) rfl) (cg (lE rfl rfl) rfl (cg (lE rfl rfl) rfl (cg (lE rfl rfl) rfl (cg (lE rfl rfl) rfl (cg (lE rfl rfl) rfl (cg (lE rfl rfl) (cg (lE rfl rfl) rfl (cg (lE rfl rfl) rfl (cg (lE rfl rfl) rfl rfl))) rfl)))))))) rfl) rfl) rfl) rfl) rfl) rfl) rfl))) rfl)) rfl) rfl) (cg (qE rfl rfl) (cg (qE rfl rfl) (cg (qE rfl rfl) (cg (lE rfl rfl) rfl (cg (qE rfl rfl) (cg (lE rfl rfl) rfl (cg (lE rfl rfl) rfl (cg (qE rfl rfl) (cg (lE rfl rfl) (cg (lE rfl rfl) (cg (lE rfl rfl) (cg (lE rfl rfl) (cg (lE rfl rfl) (cg rfl (cg rfl (cg (qE rfl rfl) (cg (qE rfl rfl) (cg (qE rfl rfl) rfl rfl) rfl) rfl) (cg (lE rfl rfl) rfl (cg (lE rfl rfl) rfl (cg (lE rfl rfl) rfl (cg (lE rfl rfl) rfl (cg (lE rfl rfl) rfl (cg (lE rfl rfl) (cg (lE rfl rfl) rfl (cg (lE rfl rfl) rfl (cg (lE rfl rfl) rfl rfl))) rfl))))))) rfl) rfl) rfl) rfl) rfl) rfl) rfl))) rfl)) rfl) rfl) (cg (qE rfl rfl) (cg (qE rfl rfl) (cg (qE rfl rfl) (cg (lE rfl rfl) rfl (cg (qE rfl rfl) (cg (lE rfl rfl) rfl (cg (lE rfl rfl) rfl (cg (qE rfl rfl) (cg (lE rfl rfl) (cg (lE rfl rfl) (cg (lE rfl rfl) (cg (lE rfl rfl) (cg rfl (cg rfl (cg (qE rfl rfl) (cg (qE rfl rfl) (cg (qE rfl rfl) rfl rfl) rfl) rfl) (cg (lE rfl rfl) rfl (cg (lE rfl rfl) rfl (cg (lE rfl rfl) rfl (cg (lE rfl rfl) rfl (cg (lE rfl rfl) rfl (cg (lE rfl rfl) (cg (lE rfl rfl) rfl (cg (lE rfl rfl) rfl (cg (lE rfl rfl) rfl rfl))) rfl))))))) rfl) rfl) rfl) rfl) rfl) rfl))) rfl)) rfl) rfl) (cg (qE rfl rfl) (cg (qE rfl rfl) rfl rfl) rfl))))) rfl)) rfl)
theorem e8_0 (v0 : D) (v1 : Bool) (v2 : D) (v3 : Int) (v4 : Int) (v5 : Int) (v6 : Int) (v7 : Int) : f8_0 v0 (.bool v1) v2 (.int v3) (.int v4) (.int v5) (.int v6) (.int v7) =
  cond (decide ((mIx [.int .i64, .int .i64, .int .i64, .int .i64, .int .i64] v2 (.row [(.int v3), (.int v4), (.int v5), (.int v6), (.int v7)])) < 0)) (
 cond (decide ((len v0 : Int) < 1048576)) (
 .row [.int 1, (ad v0 (.row [(.int v3), (.int v4), (.int v5), (.int v6), (.int v7)])), (.bool false), (ad v2 (.row [(.int v3), (.int v4), (.int v5), (.int v6), (.int v7), (.bool true)]))]) (
 .row [])) (
 cond ((cl v2 (mIx [.int .i64, .int .i64, .int .i64, .int .i64, .int .i64] v2 (.row [(.int v3), (.int v4), (.int v5), (.int v6), (.int v7)])) 5).toBool) (
 .row [.int 1, v0, (.bool v1), v2]) (
 cond (decide ((len v0 : Int) < 1048576)) (
 .row [.int 1, (ad v0 (.row [(.int v3), (.int v4), (.int v5), (.int v6), (.int v7)])), (.bool false), (upd v2 (mIx [.int .i64, .int .i64, .int .i64, .int .i64, .int .i64] v2 (.row [(.int v3), (.int v4), (.int v5), (.int v6), (.int v7)])) 5 (.bool true))]) (
 .row []))) :=
  (g_walk lt (T := t8) (t := t8p0) rfl rfl).trans (cg (lE rfl rfl) (cg (lE rfl rfl) rfl rfl) (cg rfl rfl (cg (lE rfl rfl) rfl rfl)))
theorem e9_0 (v0 : D) (v1 : Bool) (v2 : D) : f9_0 v0 (.bool v1) v2 =
 f9_1 v0 (.bool v1) (.int 0) v2 :=
 (g_walk lt (T := t9) (t := t9p0) rfl rfl).trans rfl
theorem e9_1 (v0 : D) (v1 : Bool) (v2 : Int) (v3 : D) : f9_1 v0 (.bool v1) (.int v2) v3 =
  cond (decide (v2 < (len v0 : Int))) (
 cond (decide (v2 < 0)) (
 .row []) (
 cond (D.strEq (cl v0 v2 0) v3) (
 .row [.int 1, (.int v2)]) (
 f9_1 v0 (.bool v1) (.int (IntKind.wrap .i64 (v2 + 1))) v3))) (
 .row [.int 1, (.int (-1))]) :=
  (g_walk lt (T := t9) (t := t9p1) rfl rfl).trans (cg (lE rfl rfl) (cg (lE rfl rfl) rfl (cg rfl rfl rfl)) rfl)
theorem e10_0 (v0 : D) : f10_0 v0 =
  cond (decide (4 < (len v0 : Int))) (
 .row [.int 1]) (
 f10_1 v0 (.int 0) nilD (.bool true)) :=
  (g_walk lt (T := t10) (t := t10p0) rfl rfl).trans (cg (lE rfl rfl) rfl rfl)
theorem e10_1 (v0 : D) (v1 : Int) (v2 : D) (v3 : Bool) : f10_1 v0 (.int v1) v2 (.bool v3) =
  cond (decide (v1 < (len v0 : Int))) (
 cond (decide (v1 < 0)) (
 .row []) (
 cond (eqC (cl v0 v1 0) 0 0) (
 .row [.int 1]) (
 cond (decide ((cl v0 v1 1).toInt < 1)) (
 .row [.int 1]) (
 cond (decide (1000 < (cl v0 v1 1).toInt)) (
 .row [.int 1]) (
 cond (decide ((sl (f9_0 v2 (.bool v3) (cl v0 v1 0)) 0).toInt = 1)) (
 cond (decide ((sl (f9_0 v2 (.bool v3) (cl v0 v1 0)) 1).toInt < 0)) (
 cond (decide ((len v2 : Int) < 1048576)) (
 f10_1 v0 (.int (IntKind.wrap .i64 (v1 + 1))) (ad v2 (.row [(cl v0 v1 0), (cl v0 v1 1), (.int 0)])) (.bool false)) (
 .row [])) (
 .row [.int 1])) (
 .row [])))))) (
 .row [.int 2, v2, (.bool v3)]) :=
  (g_walk lt (T := t10) (t := t10p1) rfl rfl).trans (cg (lE rfl rfl) (cg (lE rfl rfl) rfl (cg rfl rfl (cg (lE rfl rfl) rfl (cg (lE rfl rfl) rfl (cg (qE rfl rfl) (cg (lE rfl rfl) (cg (lE rfl rfl) rfl rfl) rfl) rfl))))) rfl)
theorem e12_0 (v0 : Bool) (v1 : D) (v2 : Bool) (v3 : D) : f12_0 (.bool v0) v1 (.bool v2) v3 =
  cond (v0) (
 cond (decide ((len v3 : Int) = (len v1 : Int))) (
 f12_1 v3 (.int 0) (.bool v0) v1 (.bool v2)) (
 .row [.int 1, (.int 2), v1])) (
 .row [.int 1, (.int 1), v1]) :=
  (g_walk lt (T := t12) (t := t12p0) rfl rfl).trans (cg rfl (cg (qE rfl rfl) rfl rfl) rfl)
theorem e12_1 (v0 : D) (v1 : Int) (v2 : Bool) (v3 : D) (v4 : Bool) : f12_1 v0 (.int v1) (.bool v2) v3 (.bool v4) =
  cond (decide (v1 < (len v0 : Int))) (
 cond (decide (v1 < 0)) (
 .row []) (
 cond (decide ((cl v0 v1 0).toInt < 0)) (
 .row [.int 1, (.int 3), v3]) (
 cond (decide (v1 < (len v3 : Int))) (
 cond (decide ((cl v3 v1 1).toInt < (cl v0 v1 0).toInt)) (
 .row [.int 1, (.int 3), v3]) (
 f12_1 v0 (.int (IntKind.wrap .i64 (v1 + 1))) (.bool v2) v3 (.bool v4))) (
 .row [])))) (
 f12_2 v0 (.int (len v0 : Int)) (.int 0) (.bool v2) v3 (.bool v4)) :=
  (g_walk lt (T := t12) (t := t12p1) rfl rfl).trans (cg (lE rfl rfl) (cg (lE rfl rfl) rfl (cg (lE rfl rfl) rfl (cg (lE rfl rfl) (cg (lE rfl rfl) rfl rfl) rfl))) rfl)
theorem e12_2 (v0 : D) (v1 : Int) (v2 : Int) (v3 : Bool) (v4 : D) (v5 : Bool) : f12_2 v0 (.int v1) (.int v2) (.bool v3) v4 (.bool v5) =
  cond (decide (v2 < v1)) (
 cond (decide (v2 < 0)) (
 .row []) (
 cond (decide (v2 < (len v0 : Int))) (
 cond (decide (v2 < (len v4 : Int))) (
 f12_2 v0 (.int v1) (.int (IntKind.wrap .i64 (v2 + 1))) (.bool v3) (upd v4 v2 2 (cl v0 v2 0)) (.bool v5)) (
 .row [])) (
 .row []))) (
 .row [.int 1, (.int 0), v4]) :=
  (g_walk lt (T := t12) (t := t12p2) rfl rfl).trans (cg (lE rfl rfl) (cg (lE rfl rfl) rfl (cg (lE rfl rfl) (cg (lE rfl rfl) rfl rfl) rfl)) rfl)
theorem e13_0 (v0 : Int) (v1 : Int) (v2 : Int) (v3 : Int) (v4 : Int) (v5 : D) (v6 : D) (v7 : D) (v8 : D) : f13_0 (.int v0) (.int v1) (.int v2) (.int v3) (.int v4) v5 v6 v7 v8 =
  cond (decide ((sl (f10_0 v7) 0).toInt = 1)) (
 cond (decide ((len v7 : Int) = 0)) (
 cond (decide ((sl (f11_0 emptyD) 0).toInt = 1)) (
 .row [.int 1]) (
 .row [])) (
 cond (decide ((len v7 : Int) = 1)) (
 cond (decide ((sl (f11_0 (ad emptyD (.row [(.int v1)]))) 0).toInt = 1)) (
 .row [.int 1]) (
 .row [])) (
 cond (decide ((len v7 : Int) = 2)) (
 cond (decide ((sl (f11_0 (ad (ad emptyD (.row [(.int v1)])) (.row [(.int v2)]))) 0).toInt = 1)) (
 .row [.int 1]) (
 .row [])) (
 cond (decide ((len v7 : Int) = 3)) (
 cond (decide ((sl (f11_0 (ad (ad (ad emptyD (.row [(.int v1)])) (.row [(.int v2)])) (.row [(.int v3)]))) 0).toInt = 1)) (
 .row [.int 1]) (
 .row [])) (
 cond (decide ((len v7 : Int) = 4)) (
 cond (decide ((sl (f11_0 (ad (ad (ad (ad emptyD (.row [(.int v1)])) (.row [(.int v2)])) (.row [(.int v3)])) (.row [(.int v4)]))) 0).toInt = 1)) (
 .row [.int 1]) (
 .row [])) (
 .row [])))))) (
 cond (decide ((sl (f10_0 v7) 0).toInt = 2)) (
 cond (decide ((len v7 : Int) = 0)) (
 cond (decide ((sl (f12_0 (.bool true) (sl (f10_0 v7) 1) (sl (f10_0 v7) 2) emptyD) 0).toInt = 1)) (
 .row [.int 2, (.int (len (sl (f10_0 v7) 1) : Int)), (sl (f10_0 v7) 2), (sl (f12_0 (.bool true) (sl (f10_0 v7) 1) (sl (f10_0 v7) 2) emptyD) 2)]) (
 .row [])) (
 cond (decide ((len v7 : Int) = 1)) (
 cond (decide ((sl (f12_0 (.bool true) (sl (f10_0 v7) 1) (sl (f10_0 v7) 2) (ad emptyD (.row [(.int v1)]))) 0).toInt = 1)) (
 .row [.int 2, (.int (len (sl (f10_0 v7) 1) : Int)), (sl (f10_0 v7) 2), (sl (f12_0 (.bool true) (sl (f10_0 v7) 1) (sl (f10_0 v7) 2) (ad emptyD (.row [(.int v1)]))) 2)]) (
 .row [])) (
 cond (decide ((len v7 : Int) = 2)) (
 cond (decide ((sl (f12_0 (.bool true) (sl (f10_0 v7) 1) (sl (f10_0 v7) 2) (ad (ad emptyD (.row [(.int v1)])) (.row [(.int v2)]))) 0).toInt = 1)) (
 .row [.int 2, (.int (len (sl (f10_0 v7) 1) : Int)), (sl (f10_0 v7) 2), (sl (f12_0 (.bool true) (sl (f10_0 v7) 1) (sl (f10_0 v7) 2) (ad (ad emptyD (.row [(.int v1)])) (.row [(.int v2)]))) 2)]) (
 .row [])) (
 cond (decide ((len v7 : Int) = 3)) (
 cond (decide ((sl (f12_0 (.bool true) (sl (f10_0 v7) 1) (sl (f10_0 v7) 2) (ad (ad (ad emptyD (.row [(.int v1)])) (.row [(.int v2)])) (.row [(.int v3)]))) 0).toInt = 1)) (
 .row [.int 2, (.int (len (sl (f10_0 v7) 1) : Int)), (sl (f10_0 v7) 2), (sl (f12_0 (.bool true) (sl (f10_0 v7) 1) (sl (f10_0 v7) 2) (ad (ad (ad emptyD (.row [(.int v1)])) (.row [(.int v2)])) (.row [(.int v3)]))) 2)]) (
 .row [])) (
 cond (decide ((len v7 : Int) = 4)) (
 cond (decide ((sl (f12_0 (.bool true) (sl (f10_0 v7) 1) (sl (f10_0 v7) 2) (ad (ad (ad (ad emptyD (.row [(.int v1)])) (.row [(.int v2)])) (.row [(.int v3)])) (.row [(.int v4)]))) 0).toInt = 1)) (
 .row [.int 2, (.int (len (sl (f10_0 v7) 1) : Int)), (sl (f10_0 v7) 2), (sl (f12_0 (.bool true) (sl (f10_0 v7) 1) (sl (f10_0 v7) 2) (ad (ad (ad (ad emptyD (.row [(.int v1)])) (.row [(.int v2)])) (.row [(.int v3)])) (.row [(.int v4)]))) 2)]) (
 .row [])) (
 .row [])))))) (
 .row [])) :=
  (g_walk lt (T := t13) (t := t13p0) rfl rfl).trans (cg (qE rfl rfl) (cg (qE rfl rfl) (cg (qE rfl rfl) rfl rfl) (cg (qE rfl rfl) (cg (qE rfl rfl) rfl rfl) (cg (qE rfl rfl) (cg (qE rfl rfl) rfl rfl) (cg (qE rfl rfl) (cg (qE rfl rfl) rfl rfl) (cg (qE rfl rfl) (cg (qE rfl rfl) rfl rfl) rfl))))) (cg (qE rfl rfl) (cg (qE rfl rfl) (cg (qE rfl rfl) rfl rfl) (cg (qE rfl rfl) (cg (qE rfl rfl) rfl rfl) (cg (qE rfl rfl) (cg (qE rfl rfl) rfl rfl) (cg (qE rfl rfl) (cg (qE rfl rfl) rfl rfl) (cg (qE rfl rfl) (cg (qE rfl rfl) rfl rfl) rfl))))) rfl))
theorem e15_0 (v0 : Bool) (v1 : D) (v2 : Bool) (v3 : D) : f15_0 (.bool v0) v1 (.bool v2) v3 =
  cond (v0) (
 cond (decide ((sl (f9_0 v1 (.bool v2) v3) 0).toInt = 1)) (
 cond (decide ((sl (f9_0 v1 (.bool v2) v3) 1).toInt < 0)) (
 .row [.int 1, (.int 0), (.int 9)]) (
 cond (decide ((sl (f9_0 v1 (.bool v2) v3) 1).toInt < (len v1 : Int))) (
 .row [.int 1, (cl v1 (sl (f9_0 v1 (.bool v2) v3) 1).toInt 2), (.int 0)]) (
 .row []))) (
 .row [])) (
 .row [.int 1, (.int 0), (.int 1)]) :=
  (g_walk lt (T := t15) (t := t15p0) rfl rfl).trans (cg rfl (cg (qE rfl rfl) (cg (lE rfl rfl) rfl (cg (lE rfl rfl) rfl rfl)) rfl) rfl)
theorem e16_0 (v0 : Bool) (v1 : D) (v2 : Bool) (v3 : D) (v4 : D) (v5 : Int) (v6 : D) (v7 : D) (v8 : D) (v9 : Int) (v10 : Int) (v11 : Int) : f16_0 (.bool v0) v1 (.bool v2) v3 v4 (.int v5) v6 v7 v8 (.int v9) (.int v10) (.int v11) =
  cond (v0) (
 cond (eqC v8 0 0) (
 .row [.int 1, (.bool true), (.int 0)]) (
 cond (decide ((sl (f15_0 (.bool v0) v1 (.bool v2) v8) 0).toInt = 1)) (
 cond (decide ((sl (f15_0 (.bool v0) v1 (.bool v2) v8) 2).toInt = 0)) (
 cond (decide ((sl (f9_0 v1 (.bool v2) v8) 0).toInt = 1)) (
 cond (decide ((sl (f9_0 v1 (.bool v2) v8) 1).toInt < 0)) (
 .row []) (
 cond (decide ((sl (f9_0 v1 (.bool v2) v8) 1).toInt < (len v1 : Int))) (
 cond (decide ((sl (f15_0 (.bool v0) v1 (.bool v2) v8) 1).toInt < v9)) (
 .row [.int 1, (.bool false), (.int 0)]) (
 cond (decide (v10 < (sl (f15_0 (.bool v0) v1 (.bool v2) v8) 1).toInt)) (
 .row [.int 1, (.bool false), (.int 0)]) (
 cond (decide (v11 < (IntKind.wrap .i64 (0 - (sl (f15_0 (.bool v0) v1 (.bool v2) v8) 1).toInt)))) (
 .row [.int 1, (.bool false), (.int 0)]) (
 .row [.int 1, (.bool (!decide ((IntKind.wrap .i64 ((cl v1 (sl (f9_0 v1 (.bool v2) v8) 1).toInt 1).toInt - (sl (f15_0 (.bool v0) v1 (.bool v2) v8) 1).toInt)) < v11))), (.int 0)])))) (
 .row []))) (
 .row [])) (
 .row [.int 1, (.bool false), (sl (f15_0 (.bool v0) v1 (.bool v2) v8) 2)])) (
 .row []))) (
 .row [.int 1, (.bool false), (.int 1)]) :=
  (g_walk lt (T := t16) (t := t16p0) rfl rfl).trans (cg rfl (cg rfl rfl (cg (qE rfl rfl) (cg (qE rfl rfl) (cg (qE rfl rfl) (cg (lE rfl rfl) rfl (cg (lE rfl rfl) (cg (lE rfl rfl) rfl (cg (lE rfl rfl) rfl (cg (lE rfl rfl) rfl rfl))) rfl)) rfl) rfl) rfl)) rfl)
theorem e17_0 (v0 : Int) (v1 : Int) (v2 : Int) (v3 : Int) (v4 : Int) (v5 : D) (v6 : D) (v7 : D) (v8 : D) : f17_0 (.int v0) (.int v1) (.int v2) (.int v3) (.int v4) v5 v6 v7 v8 =
  cond (decide ((sl (f13_0 (.int v0) (.int v1) (.int v2) (.int v3) (.int v4) v5 v6 v7 v8) 0).toInt = 1)) (
 f17_1 v8 (.int 0) (.int v0) (.int v1) (.int v2) (.int v3) (.int v4) v5 v6 v7) (
 cond (decide ((sl (f13_0 (.int v0) (.int v1) (.int v2) (.int v3) (.int v4) v5 v6 v7 v8) 0).toInt = 2)) (
 f17_2 nilD (.bool true) v8 (.int 0) (.int v0) (.int v1) (.int v2) (.int v3) (.int v4) v5 v6 v7 (sl (f13_0 (.int v0) (.int v1) (.int v2) (.int v3) (.int v4) v5 v6 v7 v8) 1) (sl (f13_0 (.int v0) (.int v1) (.int v2) (.int v3) (.int v4) v5 v6 v7 v8) 2) (sl (f13_0 (.int v0) (.int v1) (.int v2) (.int v3) (.int v4) v5 v6 v7 v8) 3)) (
 .row [])) :=
  (g_walk lt (T := t17) (t := t17p0) rfl rfl).trans (cg (qE rfl rfl) rfl (cg (qE rfl rfl) rfl rfl))
theorem e17_2 (v0 : D) (v1 : Bool) (v2 : D) (v3 : Int) (v4 : Int) (v5 : Int) (v6 : Int) (v7 : Int) (v8 : Int) (v9 : D) (v10 : D) (v11 : D) (v12 : D) (v13 : Bool) (v14 : D) : f17_2 v0 (.bool v1) v2 (.int v3) (.int v4) (.int v5) (.int v6) (.int v7) (.int v8) v9 v10 v11 v12 (.bool v13) v14 =
  cond (decide (v3 < (len v2 : Int))) (
 cond (decide (v3 < 0)) (
 .row []) (
 cond (decide ((len v14 : Int) = v12.toInt)) (
 cond (decide ((sl (f16_0 (.bool true) v14 (.bool v13) (cl v2 v3 0) (cl v2 v3 1) (cl v2 v3 2) (cl v2 v3 3) (cl v2 v3 4) (cl v2 v3 5) (cl v2 v3 6) (cl v2 v3 7) (cl v2 v3 8)) 0).toInt = 1)) (
 cond ((sl (f16_0 (.bool true) v14 (.bool v13) (cl v2 v3 0) (cl v2 v3 1) (cl v2 v3 2) (cl v2 v3 3) (cl v2 v3 4) (cl v2 v3 5) (cl v2 v3 6) (cl v2 v3 7) (cl v2 v3 8)) 1).toBool) (
 cond (decide (v4 < 0)) (
 .row []) (
 cond (decide (v4 < (len v10 : Int))) (
 cond (D.strEq (cl v2 v3 0) (cl v10 v4 0)) (
 cond (decide ((len v0 : Int) < 1048576)) (
 f17_2 (ad v0 (.row [(.int v3)])) (.bool false) v2 (.int (IntKind.wrap .i64 (v3 + 1))) (.int v4) (.int v5) (.int v6) (.int v7) (.int v8) v9 v10 v11 (.int (len v14 : Int)) (.bool v13) v14) (
 .row [])) (
 f17_2 v0 (.bool v1) v2 (.int (IntKind.wrap .i64 (v3 + 1))) (.int v4) (.int v5) (.int v6) (.int v7) (.int v8) v9 v10 v11 (.int (len v14 : Int)) (.bool v13) v14)) (
 .row []))) (
 f17_2 v0 (.bool v1) v2 (.int (IntKind.wrap .i64 (v3 + 1))) (.int v4) (.int v5) (.int v6) (.int v7) (.int v8) v9 v10 v11 (.int (len v14 : Int)) (.bool v13) v14)) (
 .row [])) (
 .row []))) (
 .row [.int 1, v0, (.bool v1)]) :=
  (g_walk lt (T := t17) (t := t17p2) rfl rfl).trans (cg (lE rfl rfl) (cg (lE rfl rfl) rfl (cg (qE rfl rfl) (cg (qE rfl rfl) (cg rfl (cg (lE rfl rfl) rfl (cg (lE rfl rfl) (cg rfl (cg (lE rfl rfl) rfl rfl) rfl) rfl)) rfl) rfl) rfl)) rfl)
theorem e19_0 (v0 : D) (v1 : D) : f19_0 v0 v1 =
 f19_1 v0 (.int 0) v1 :=
 (g_walk lt (T := t19) (t := t19p0) rfl rfl).trans rfl
theorem e19_1 (v0 : D) (v1 : Int) (v2 : D) : f19_1 v0 (.int v1) v2 =
  cond (decide (v1 < (len v0 : Int))) (
 cond (decide (v1 < 0)) (
 .row []) (
 cond (D.strEq (cl v0 v1 0) v2) (
 .row [.int 1, (.int v1)]) (
 f19_1 v0 (.int (IntKind.wrap .i64 (v1 + 1))) v2))) (
 .row [.int 1, (.int (-1))]) :=
  (g_walk lt (T := t19) (t := t19p1) rfl rfl).trans (cg (lE rfl rfl) (cg (lE rfl rfl) rfl (cg rfl rfl rfl)) rfl)
theorem e20_0 (v0 : Bool) (v1 : D) (v2 : Bool) (v3 : D) (v4 : D) (v5 : Int) (v6 : D) (v7 : D) (v8 : D) (v9 : Int) (v10 : Int) (v11 : Int) : f20_0 (.bool v0) v1 (.bool v2) v3 v4 (.int v5) v6 v7 v8 (.int v9) (.int v10) (.int v11) =
  cond (decide ((sl (f16_0 (.bool v0) v1 (.bool v2) v3 v4 (.int v5) v6 v7 v8 (.int v9) (.int v10) (.int v11)) 0).toInt = 1)) (
 cond (decide ((sl (f16_0 (.bool v0) v1 (.bool v2) v3 v4 (.int v5) v6 v7 v8 (.int v9) (.int v10) (.int v11)) 2).toInt = 0)) (
 cond ((sl (f16_0 (.bool v0) v1 (.bool v2) v3 v4 (.int v5) v6 v7 v8 (.int v9) (.int v10) (.int v11)) 1).toBool) (
 cond (eqC v8 0 0) (
 .row [.int 1, (.int 0), v1]) (
 cond (decide ((sl (f9_0 v1 (.bool v2) v8) 0).toInt = 1)) (
 cond (decide ((sl (f9_0 v1 (.bool v2) v8) 1).toInt < 0)) (
 .row []) (
 cond (decide ((sl (f9_0 v1 (.bool v2) v8) 1).toInt < (len v1 : Int))) (
 .row [.int 1, (.int 0), (upd v1 (sl (f9_0 v1 (.bool v2) v8) 1).toInt 2 (.int (IntKind.wrap .i64 ((cl v1 (sl (f9_0 v1 (.bool v2) v8) 1).toInt 2).toInt + v11))))]) (
 .row []))) (
 .row []))) (
 .row [.int 1, (.int 8), v1])) (
 .row [.int 1, (sl (f16_0 (.bool v0) v1 (.bool v2) v3 v4 (.int v5) v6 v7 v8 (.int v9) (.int v10) (.int v11)) 2), v1])) (
 .row []) :=
  (g_walk lt (T := t20) (t := t20p0) rfl rfl).trans (cg (qE rfl rfl) (cg (qE rfl rfl) (cg rfl (cg rfl rfl (cg (qE rfl rfl) (cg (lE rfl rfl) rfl (cg (lE rfl rfl) rfl rfl)) rfl)) rfl) rfl) rfl)
theorem e21_0 (v0 : D) (v1 : Bool) (v2 : D) (v3 : Bool) : f21_0 v0 (.bool v1) v2 (.bool v3) =
 f21_1 v2 (.bool v3) (.int 0) v0 (.bool v1) :=
 (g_walk lt (T := t21) (t := t21p0) rfl rfl).trans rfl
theorem e21_1 (v0 : D) (v1 : Bool) (v2 : Int) (v3 : D) (v4 : Bool) : f21_1 v0 (.bool v1) (.int v2) v3 (.bool v4) =
  cond (decide (v2 < (len v0 : Int))) (
 cond (decide (v2 < 0)) (
 .row []) (
 cond (decide ((len v3 : Int) < 1048576)) (
 f21_1 v0 (.bool v1) (.int (IntKind.wrap .i64 (v2 + 1))) (ad v3 (.row [(cl v0 v2 2)])) (.bool false)) (
 .row []))) (
 .row [.int 1, v3, (.bool v4)]) :=
  (g_walk lt (T := t21) (t := t21p1) rfl rfl).trans (cg (lE rfl rfl) (cg (lE rfl rfl) rfl (cg (lE rfl rfl) rfl rfl)) rfl)
theorem e22_0 (v0 : Int) (v1 : Int) (v2 : Int) (v3 : Int) (v4 : Int) (v5 : D) (v6 : D) (v7 : D) (v8 : D) (v9 : Int) {F0 : D} {F1 : D} {F2 : D} (h0 : f13_0 (.int v0) (.int v1) (.int v2) (.int v3) (.int v4) v5 v6 v7 v8 = F0) (h1 : f20_0 (.bool true) (sl F0 3) (sl F0 2) (cl v8 v9 0) (cl v8 v9 1) (cl v8 v9 2) (cl v8 v9 3) (cl v8 v9 4) (cl v8 v9 5) (cl v8 v9 6) (cl v8 v9 7) (cl v8 v9 8) = F1) (h2 : f21_0 nilD (.bool true) (ct emptyD (sl F1 2)) (.bool false) = F2) : f22_0 (.int v0) (.int v1) (.int v2) (.int v3) (.int v4) v5 v6 v7 v8 (.int v9) =
  cond (decide ((sl F0 0).toInt = 1)) (
 cond (decide (v9 < 0)) (
 .row []) (
 cond (decide (v9 < (len v8 : Int))) (
 cond (decide ((sl (f18_0 (cl v8 v9 0) (cl v8 v9 1) (cl v8 v9 2) (cl v8 v9 3) (cl v8 v9 4) (cl v8 v9 5) (cl v8 v9 6) (cl v8 v9 7) (cl v8 v9 8)) 0).toInt = 1)) (
 cond (decide ((sl (f19_0 v6 (cl v8 v9 1)) 0).toInt = 1)) (
 .row [.int 1, (sl (f19_0 v6 (cl v8 v9 1)) 1), (.int 0), (.int 0), (.int 0), (.int 0)]) (
 .row [])) (
 .row [])) (
 .row []))) (
 cond (decide ((sl F0 0).toInt = 2)) (
 cond (decide (v9 < 0)) (
 .row []) (
 cond (decide (v9 < (len v8 : Int))) (
 cond (decide ((len (sl F0 3) : Int) = (sl F0 1).toInt)) (
 cond (decide ((sl F1 0).toInt = 1)) (
 cond (decide ((sl (f19_0 v6 (cl v8 v9 1)) 0).toInt = 1)) (
 cond ((sl F0 2).toBool) (
 .row [.int 1, (sl (f19_0 v6 (cl v8 v9 1)) 1), (.int 0), (.int 0), (.int 0), (.int 0)]) (
 cond (decide ((len (sl F0 3) : Int) = (len (sl F1 2) : Int))) (
 cond (decide ((len (sl F1 2) : Int) < 1048576)) (
 cond (decide ((sl (f21_0 nilD (.bool true) (ct emptyD (sl F1 2)) (.bool (false && decide ((len (sl F1 2) : Int) = 0)))) 0).toInt = 1)) (
 cond (decide ((len (sl (f21_0 nilD (.bool true) (ct emptyD (sl F1 2)) (.bool (false && decide ((len (sl F1 2) : Int) = 0)))) 1) : Int) < 4)) (
 cond (decide ((len (sl (f21_0 nilD (.bool true) (ct emptyD (sl F1 2)) (.bool (false && decide ((len (sl F1 2) : Int) = 0)))) 1) : Int) = 0)) (
 .row [.int 1, (sl (f19_0 v6 (cl v8 v9 1)) 1), (.int 0), (.int 0), (.int 0), (.int 0)]) (
 cond (decide ((len (sl (f21_0 nilD (.bool true) (ct emptyD (sl F1 2)) (.bool (false && decide ((len (sl F1 2) : Int) = 0)))) 1) : Int) = 1)) (
 .row [.int 1, (sl (f19_0 v6 (cl v8 v9 1)) 1), (cl (sl F2 1) 0 0), (.int 0), (.int 0), (.int 0)]) (
 cond (decide ((len (sl (f21_0 nilD (.bool true) (ct emptyD (sl F1 2)) (.bool (false && decide ((len (sl F1 2) : Int) = 0)))) 1) : Int) = 2)) (
 .row [.int 1, (sl (f19_0 v6 (cl v8 v9 1)) 1), (cl (sl F2 1) 0 0), (cl (sl F2 1) 1 0), (.int 0), (.int 0)]) (
 cond (decide ((len (sl (f21_0 nilD (.bool true) (ct emptyD (sl F1 2)) (.bool (false && decide ((len (sl F1 2) : Int) = 0)))) 1) : Int) = 3)) (
 .row [.int 1, (sl (f19_0 v6 (cl v8 v9 1)) 1), (cl (sl F2 1) 0 0), (cl (sl F2 1) 1 0), (cl (sl F2 1) 2 0), (.int 0)]) (
 .row []))))) (
 .row [.int 1, (sl (f19_0 v6 (cl v8 v9 1)) 1), (cl (sl F2 1) 0 0), (cl (sl F2 1) 1 0), (cl (sl F2 1) 2 0), (cl (sl F2 1) 3 0)])) (
 .row [])) (
 .row [])) (
 .row []))) (
 .row [])) (
 .row [])) (
 .row [])) (
 .row []))) (
 .row [])) := by
  subst h0; subst h1; subst h2; exact (g_walk lt (T := t22) (t := t22p0) rfl rfl).trans (cg (qE rfl rfl) (cg (lE rfl rfl) rfl (cg (lE rfl rfl) (cg (qE rfl rfl) (cg (qE rfl rfl) rfl rfl) rfl) rfl)) (cg (qE rfl rfl) (cg (lE rfl rfl) rfl (cg (lE rfl rfl) (cg (qE rfl rfl) (cg (qE rfl rfl) (cg (qE rfl rfl) (cg rfl rfl (cg (qE rfl rfl) (cg (lE rfl rfl) (cg (qE rfl rfl) (cg (lE rfl rfl) (cg (qE rfl rfl) rfl (cg (qE rfl rfl) rfl (cg (qE rfl rfl) rfl (cg (qE rfl rfl) rfl rfl)))) rfl) rfl) rfl) rfl)) rfl) rfl) rfl) rfl)) rfl))
theorem e23_0 (v0 : Int) (v1 : Int) (v2 : Int) (v3 : Int) (v4 : Int) (v5 : D) (v6 : Bool) (v7 : D) (v8 : D) (v9 : D) (v10 : D) (v11 : D) : f23_0 (.int v0) (.int v1) (.int v2) (.int v3) (.int v4) v5 (.bool v6) v7 v8 v9 v10 v11 =
  cond (decide ((sl (f17_0 (.int v0) (.int v1) (.int v2) (.int v3) (.int v4) v8 v9 v10 v11) 0).toInt = 1)) (
 f23_1 (sl (f17_0 (.int v0) (.int v1) (.int v2) (.int v3) (.int v4) v8 v9 v10 v11) 1) (sl (f17_0 (.int v0) (.int v1) (.int v2) (.int v3) (.int v4) v8 v9 v10 v11) 2) (.int (len (sl (f17_0 (.int v0) (.int v1) (.int v2) (.int v3) (.int v4) v8 v9 v10 v11) 1) : Int)) (.int 0) v5 (.bool v6) v7 v8 v9 v10 v11 (.int v0) (.int v1) (.int v2) (.int v3) (.int v4)) (
 .row []) :=
  (g_walk lt (T := t23) (t := t23p0) rfl rfl).trans (cg (qE rfl rfl) rfl rfl)
theorem e23_1 (v0 : D) (v1 : Bool) (v2 : Int) (v3 : Int) (v4 : D) (v5 : Bool) (v6 : D) (v7 : D) (v8 : D) (v9 : D) (v10 : D) (v11 : Int) (v12 : Int) (v13 : Int) (v14 : Int) (v15 : Int) : f23_1 v0 (.bool v1) (.int v2) (.int v3) v4 (.bool v5) v6 v7 v8 v9 v10 (.int v11) (.int v12) (.int v13) (.int v14) (.int v15) =
  cond (decide (v3 < v2)) (
 cond (decide (v3 < 0)) (
 .row []) (
 cond (decide (v3 < (len v0 : Int))) (
 cond (decide ((sl (f22_0 (.int v11) (.int v12) (.int v13) (.int v14) (.int v15) v7 v8 v9 v10 (cl v0 v3 0)) 0).toInt = 1)) (
 cond (decide ((sl (f8_0 v4 (.bool v5) v6 (sl (f22_0 (.int v11) (.int v12) (.int v13) (.int v14) (.int v15) v7 v8 v9 v10 (cl v0 v3 0)) 1) (sl (f22_0 (.int v11) (.int v12) (.int v13) (.int v14) (.int v15) v7 v8 v9 v10 (cl v0 v3 0)) 2) (sl (f22_0 (.int v11) (.int v12) (.int v13) (.int v14) (.int v15) v7 v8 v9 v10 (cl v0 v3 0)) 3) (sl (f22_0 (.int v11) (.int v12) (.int v13) (.int v14) (.int v15) v7 v8 v9 v10 (cl v0 v3 0)) 4) (sl (f22_0 (.int v11) (.int v12) (.int v13) (.int v14) (.int v15) v7 v8 v9 v10 (cl v0 v3 0)) 5)) 0).toInt = 1)) (
 f23_1 v0 (.bool v1) (.int v2) (.int (IntKind.wrap .i64 (v3 + 1))) (sl (f8_0 v4 (.bool v5) v6 (sl (f22_0 (.int v11) (.int v12) (.int v13) (.int v14) (.int v15) v7 v8 v9 v10 (cl v0 v3 0)) 1) (sl (f22_0 (.int v11) (.int v12) (.int v13) (.int v14) (.int v15) v7 v8 v9 v10 (cl v0 v3 0)) 2) (sl (f22_0 (.int v11) (.int v12) (.int v13) (.int v14) (.int v15) v7 v8 v9 v10 (cl v0 v3 0)) 3) (sl (f22_0 (.int v11) (.int v12) (.int v13) (.int v14) (.int v15) v7 v8 v9 v10 (cl v0 v3 0)) 4) (sl (f22_0 (.int v11) (.int v12) (.int v13) (.int v14) (.int v15) v7 v8 v9 v10 (cl v0 v3 0)) 5)) 1) (sl (f8_0 v4 (.bool v5) v6 (sl (f22_0 (.int v11) (.int v12) (.int v13) (.int v14) (.int v15) v7 v8 v9 v10 (cl v0 v3 0)) 1) (sl (f22_0 (.int v11) (.int v12) (.int v13) (.int v14) (.int v15) v7 v8 v9 v10 (cl v0 v3 0)) 2) (sl (f22_0 (.int v11) (.int v12) (.int v13) (.int v14) (.int v15) v7 v8 v9 v10 (cl v0 v3 0)) 3) (sl (f22_0 (.int v11) (.int v12) (.int v13) (.int v14) (.int v15) v7 v8 v9 v10 (cl v0 v3 0)) 4) (sl (f22_0 (.int v11) (.int v12) (.int v13) (.int v14) (.int v15) v7 v8 v9 v10 (cl v0 v3 0)) 5)) 2) (sl (f8_0 v4 (.bool v5) v6 (sl (f22_0 (.int v11) (.int v12) (.int v13) (.int v14) (.int v15) v7 v8 v9 v10 (cl v0 v3 0)) 1) (sl (f22_0 (.int v11) (.int v12) (.int v13) (.int v14) (.int v15) v7 v8 v9 v10 (cl v0 v3 0)) 2) (sl (f22_0 (.int v11) (.int v12) (.int v13) (.int v14) (.int v15) v7 v8 v9 v10 (cl v0 v3 0)) 3) (sl (f22_0 (.int v11) (.int v12) (.int v13) (.int v14) (.int v15) v7 v8 v9 v10 (cl v0 v3 0)) 4) (sl (f22_0 (.int v11) (.int v12) (.int v13) (.int v14) (.int v15) v7 v8 v9 v10 (cl v0 v3 0)) 5)) 3) v7 v8 v9 v10 (.int v11) (.int v12) (.int v13) (.int v14) (.int v15)) (
 .row [])) (
 .row [])) (
 .row []))) (
 .row [.int 1, v4, (.bool v5), v6]) :=
  (g_walk lt (T := t23) (t := t23p1) rfl rfl).trans (cg (lE rfl rfl) (cg (lE rfl rfl) rfl (cg (lE rfl rfl) (cg (qE rfl rfl) (cg (qE rfl rfl) rfl rfl) rfl) rfl)) rfl)
theorem e24_0 (v0 : D) (v1 : Bool) (v2 : Int) (v3 : D) (v4 : D) (v5 : D) (v6 : D) : f24_0 v0 (.bool v1) (.int v2) v3 v4 v5 v6 =
 f24_1 (.int v2) v0 (.bool v1) (.int 0) v3 v4 v5 v6 nilD (.bool true) emptyD :=
 (g_walk lt (T := t24) (t := t24p0) rfl rfl).trans rfl
theorem e24_1 (v0 : Int) (v1 : D) (v2 : Bool) (v3 : Int) (v4 : D) (v5 : D) (v6 : D) (v7 : D) (v8 : D) (v9 : Bool) (v10 : D) : f24_1 (.int v0) v1 (.bool v2) (.int v3) v4 v5 v6 v7 v8 (.bool v9) v10 =
  cond (decide (v3 < (len v1 : Int))) (
 cond (decide (v3 < 0)) (
 .row []) (
 cond (decide ((sl (f8_0 v8 (.bool v9) v10 (cl v1 v3 0) (cl v1 v3 1) (cl v1 v3 2) (cl v1 v3 3) (cl v1 v3 4)) 0).toInt = 1)) (
 f24_1 (.int v0) v1 (.bool v2) (.int (IntKind.wrap .i64 (v3 + 1))) v4 v5 v6 v7 (sl (f8_0 v8 (.bool v9) v10 (cl v1 v3 0) (cl v1 v3 1) (cl v1 v3 2) (cl v1 v3 3) (cl v1 v3 4)) 1) (sl (f8_0 v8 (.bool v9) v10 (cl v1 v3 0) (cl v1 v3 1) (cl v1 v3 2) (cl v1 v3 3) (cl v1 v3 4)) 2) (sl (f8_0 v8 (.bool v9) v10 (cl v1 v3 0) (cl v1 v3 1) (cl v1 v3 2) (cl v1 v3 3) (cl v1 v3 4)) 3)) (
 .row []))) (
 f24_2 (.int v0) (.int 0) v1 v4 v5 v6 v7 v8 (.bool v9) v10) :=
  (g_walk lt (T := t24) (t := t24p1) rfl rfl).trans (cg (lE rfl rfl) (cg (lE rfl rfl) rfl (cg (qE rfl rfl) rfl rfl)) rfl)
theorem e24_2 (v0 : Int) (v1 : Int) (v2 : D) (v3 : D) (v4 : D) (v5 : D) (v6 : D) (v7 : D) (v8 : Bool) (v9 : D) : f24_2 (.int v0) (.int v1) v2 v3 v4 v5 v6 v7 (.bool v8) v9 =
  cond (decide (v1 < (len v7 : Int))) (
 cond (decide (v1 < v0)) (
 cond (decide (v1 < 0)) (
 .row []) (
 cond (decide ((sl (f23_0 (cl v7 v1 0) (cl v7 v1 1) (cl v7 v1 2) (cl v7 v1 3) (cl v7 v1 4) v7 (.bool v8) v9 v3 v4 v5 v6) 0).toInt = 1)) (
 f24_2 (.int v0) (.int (IntKind.wrap .i64 (v1 + 1))) v2 v3 v4 v5 v6 (sl (f23_0 (cl v7 v1 0) (cl v7 v1 1) (cl v7 v1 2) (cl v7 v1 3) (cl v7 v1 4) v7 (.bool v8) v9 v3 v4 v5 v6) 1) (sl (f23_0 (cl v7 v1 0) (cl v7 v1 1) (cl v7 v1 2) (cl v7 v1 3) (cl v7 v1 4) v7 (.bool v8) v9 v3 v4 v5 v6) 2) (sl (f23_0 (cl v7 v1 0) (cl v7 v1 1) (cl v7 v1 2) (cl v7 v1 3) (cl v7 v1 4) v7 (.bool v8) v9 v3 v4 v5 v6) 3)) (
 .row []))) (
 .row [.int 1, v7, (.bool v8), (.bool (decide (v0 < (len v7 : Int))))])) (
 .row [.int 1, v7, (.bool v8), (.bool (decide (v0 < (len v7 : Int))))]) :=
  (g_walk lt (T := t24) (t := t24p2) rfl rfl).trans (cg (lE rfl rfl) (cg (lE rfl rfl) (cg (lE rfl rfl) rfl (cg (qE rfl rfl) rfl rfl)) rfl) rfl)
theorem e25_0 (v0 : Int) (v1 : Int) (v2 : Int) (v3 : Int) (v4 : Int) (v5 : D) (v6 : D) (v7 : D) (v8 : D) : f25_0 (.int v0) (.int v1) (.int v2) (.int v3) (.int v4) v5 v6 v7 v8 =
  cond (decide (v0 < 0)) (
 .row []) (
 cond (decide (v0 < (len v6 : Int))) (
 cond (decide ((len v7 : Int) = 0)) (
 .row [.int 1, (cl v6 v0 0), emptyD]) (
 cond (decide ((len v7 : Int) = 1)) (
 .row [.int 1, (cl v6 v0 0), (ad emptyD (.row [(.int v1)]))]) (
 cond (decide ((len v7 : Int) = 2)) (
 .row [.int 1, (cl v6 v0 0), (ad (ad emptyD (.row [(.int v1)])) (.row [(.int v2)]))]) (
 cond (decide ((len v7 : Int) = 3)) (
 .row [.int 1, (cl v6 v0 0), (ad (ad (ad emptyD (.row [(.int v1)])) (.row [(.int v2)])) (.row [(.int v3)]))]) (
 cond (decide ((len v7 : Int) = 4)) (
 .row [.int 1, (cl v6 v0 0), (ad (ad (ad (ad emptyD (.row [(.int v1)])) (.row [(.int v2)])) (.row [(.int v3)])) (.row [(.int v4)]))]) (
 .row [])))))) (
 .row [])) :=
  (g_walk lt (T := t25) (t := t25p0) rfl rfl).trans (cg (lE rfl rfl) rfl (cg (lE rfl rfl) (cg (qE rfl rfl) rfl (cg (qE rfl rfl) rfl (cg (qE rfl rfl) rfl (cg (qE rfl rfl) rfl (cg (qE rfl rfl) rfl rfl))))) rfl))
theorem e26_0 (v0 : D) (v1 : D) (v2 : D) (v3 : D) : f26_0 v0 v1 v2 v3 =
  cond (decide ((sl (f1_0 v0) 0).toInt = 1)) (
 cond ((sl (f1_0 v0) 1).toBool) (
 cond (decide ((sl (f3_0 (.int (len v2 : Int)) (.int 0) (.int 4) v0 v1 v2 v3) 0).toInt = 1)) (
 cond (decide ((sl (f3_0 (.int (len v2 : Int)) (.int 0) (.int 4) v0 v1 v2 v3) 1).toInt < 0)) (
 cond (decide ((sl (f5_0 (.int (len v1 : Int)) (.int 1) (.int 24) v0 v1 v2 v3) 0).toInt = 1)) (
 cond (decide ((sl (f5_0 (.int (len v1 : Int)) (.int 1) (.int 24) v0 v1 v2 v3) 1).toInt < 0)) (
 cond (decide ((sl (f7_0 (.int (len v3 : Int)) (.int 0) (.int 80) v0 v1 v2 v3) 0).toInt = 1)) (
 cond (decide ((sl (f7_0 (.int (len v3 : Int)) (.int 0) (.int 80) v0 v1 v2 v3) 1).toInt < 0)) (
 cond (decide ((sl (f24_0 (ad emptyD (.row [(.int 0), (.int 0), (.int 0), (.int 0), (.int 0)])) (.bool false) (.int 2000) v0 v1 v2 v3) 0).toInt = 1)) (
 cond ((sl (f24_0 (ad emptyD (.row [(.int 0), (.int 0), (.int 0), (.int 0), (.int 0)])) (.bool false) (.int 2000) v0 v1 v2 v3) 3).toBool) (
 .row [.int 1, nilD, (.bool true), (.int 7)]) (
 f26_1 nilD (.bool true) (sl (f24_0 (ad emptyD (.row [(.int 0), (.int 0), (.int 0), (.int 0), (.int 0)])) (.bool false) (.int 2000) v0 v1 v2 v3) 1) (sl (f24_0 (ad emptyD (.row [(.int 0), (.int 0), (.int 0), (.int 0), (.int 0)])) (.bool false) (.int 2000) v0 v1 v2 v3) 2) (.int (len (sl (f24_0 (ad emptyD (.row [(.int 0), (.int 0), (.int 0), (.int 0), (.int 0)])) (.bool false) (.int 2000) v0 v1 v2 v3) 1) : Int)) (.int 0) v0 v1 v2 v3)) (
 .row [])) (
 .row [.int 1, nilD, (.bool true), (.int 2)])) (
 .row [])) (
 .row [.int 1, nilD, (.bool true), (.int 2)])) (
 .row [])) (
 .row [.int 1, nilD, (.bool true), (.int 2)])) (
 .row [])) (
 .row [.int 1, nilD, (.bool true), (.int 2)])) (
 .row []) :=
  (g_walk lt (T := t26) (t := t26p0) rfl rfl).trans (cg (qE rfl rfl) (cg rfl (cg (qE rfl rfl) (cg (lE rfl rfl) (cg (qE rfl rfl) (cg (lE rfl rfl) (cg (qE rfl rfl) (cg (lE rfl rfl) (cg (qE rfl rfl) (cg rfl rfl rfl) rfl) rfl) rfl) rfl) rfl) rfl) rfl) rfl) rfl)
theorem e26_1 (v0 : D) (v1 : Bool) (v2 : D) (v3 : Bool) (v4 : Int) (v5 : Int) (v6 : D) (v7 : D) (v8 : D) (v9 : D) : f26_1 v0 (.bool v1) v2 (.bool v3) (.int v4) (.int v5) v6 v7 v8 v9 =
  cond (decide (v5 < v4)) (
 cond (decide (v5 < 0)) (
 .row []) (
 cond (decide (v5 < (len v2 : Int))) (
 cond (decide ((sl (f25_0 (cl v2 v5 0) (cl v2 v5 1) (cl v2 v5 2) (cl v2 v5 3) (cl v2 v5 4) v6 v7 v8 v9) 0).toInt = 1)) (
 cond (decide ((len v0 : Int) < 1048576)) (
 f26_1 (ad v0 (.row [(sl (f25_0 (cl v2 v5 0) (cl v2 v5 1) (cl v2 v5 2) (cl v2 v5 3) (cl v2 v5 4) v6 v7 v8 v9) 1), (ni (sl (f25_0 (cl v2 v5 0) (cl v2 v5 1) (cl v2 v5 2) (cl v2 v5 3) (cl v2 v5 4) v6 v7 v8 v9) 2) false)])) (.bool false) v2 (.bool v3) (.int v4) (.int (IntKind.wrap .i64 (v5 + 1))) v6 v7 v8 v9) (
 .row [])) (
 .row [])) (
 .row []))) (
 .row [.int 1, v0, (.bool v1), (.int 0)]) :=
  (g_walk lt (T := t26) (t := t26p1) rfl rfl).trans (cg (lE rfl rfl) (cg (lE rfl rfl) rfl (cg (lE rfl rfl) (cg (qE rfl rfl) (cg (lE rfl rfl) rfl rfl) rfl) rfl)) rfl)
theorem e27_0 (v0 : D) : f27_0 v0 =
  cond (decide ((slen v0 : Int) < 1)) (
 .row [.int 1, (.bool false)]) (
 cond (decide (32 < (slen v0 : Int))) (
 .row [.int 1, (.bool false)]) (
 cond (decide ((sAt v0 0) = 95)) (
 .row [.int 1, (.bool false)]) (
 cond (decide ((sAt v0 0) < 48)) (
 f27_1 v0 (.int 0)) (
 cond (decide (57 < (sAt v0 0))) (
 f27_1 v0 (.int 0)) (
 .row [.int 1, (.bool false)]))))) :=
  (g_walk lt (T := t27) (t := t27p0) rfl rfl).trans (cg (lE rfl rfl) rfl (cg (lE rfl rfl) rfl (cg (qE rfl rfl) rfl (cg (lE rfl rfl) rfl (cg (lE rfl rfl) rfl rfl)))))
theorem e27_1 (v0 : D) (v1 : Int) : f27_1 v0 (.int v1) =
  cond (decide (v1 < (slen v0 : Int))) (
 cond (decide (v1 < 0)) (
 .row []) (
 cond (decide ((sAt v0 v1) < 97)) (
 cond (decide ((sAt v0 v1) < 65)) (
 cond (decide ((sAt v0 v1) < 48)) (
 .row [.int 1, (.bool false)]) (
 cond (decide (57 < (sAt v0 v1))) (
 .row [.int 1, (.bool false)]) (
 f27_1 v0 (.int (IntKind.wrap .i64 (v1 + 1)))))) (
 cond (decide (90 < (sAt v0 v1))) (
 cond (decide ((sAt v0 v1) = 95)) (
 f27_1 v0 (.int (IntKind.wrap .i64 (v1 + 1)))) (
 .row [.int 1, (.bool false)])) (
 f27_1 v0 (.int (IntKind.wrap .i64 (v1 + 1)))))) (
 cond (decide (122 < (sAt v0 v1))) (
 .row [.int 1, (.bool false)]) (
 f27_1 v0 (.int (IntKind.wrap .i64 (v1 + 1))))))) (
 .row [.int 1, (.bool true)]) :=
  (g_walk lt (T := t27) (t := t27p1) rfl rfl).trans (cg (lE rfl rfl) (cg (lE rfl rfl) rfl (cg (lE rfl rfl) (cg (lE rfl rfl) (cg (lE rfl rfl) rfl (cg (lE rfl rfl) rfl rfl)) (cg (lE rfl rfl) (cg (qE rfl rfl) rfl rfl) rfl)) (cg (lE rfl rfl) rfl rfl))) rfl)
theorem e28_0 (v0 : D) (v1 : D) (v2 : D) (v3 : D) (v4 : D) : f28_0 v0 v1 v2 v3 v4 =
 f28_1 v4 (.int 0) v0 v1 v2 v3 :=
 (g_walk lt (T := t28) (t := t28p0) rfl rfl).trans rfl
theorem e28_1 (v0 : D) (v1 : Int) (v2 : D) (v3 : D) (v4 : D) (v5 : D) : f28_1 v0 (.int v1) v2 v3 v4 v5 =
  cond (decide (v1 < (len v4 : Int))) (
 cond (decide (v1 < 0)) (
 .row []) (
 cond (D.strEq (cl v4 v1 0) v0) (
 .row [.int 1, (.int v1)]) (
 f28_1 v0 (.int (IntKind.wrap .i64 (v1 + 1))) v2 v3 v4 v5))) (
 .row [.int 1, (.int (-1))]) :=
  (g_walk lt (T := t28) (t := t28p1) rfl rfl).trans (cg (lE rfl rfl) (cg (lE rfl rfl) rfl (cg rfl rfl rfl)) rfl)
theorem e29_0 (v0 : D) (v1 : D) (v2 : D) (v3 : D) (v4 : D) : f29_0 v0 v1 v2 v3 v4 =
 f29_1 v4 (.int 0) v0 v1 v2 v3 :=
 (g_walk lt (T := t29) (t := t29p0) rfl rfl).trans rfl
theorem e29_1 (v0 : D) (v1 : Int) (v2 : D) (v3 : D) (v4 : D) (v5 : D) : f29_1 v0 (.int v1) v2 v3 v4 v5 =
  cond (decide (v1 < (len v3 : Int))) (
 cond (decide (v1 < 0)) (
 .row []) (
 cond (D.strEq (cl v3 v1 0) v0) (
 .row [.int 1, (.int v1)]) (
 f29_1 v0 (.int (IntKind.wrap .i64 (v1 + 1))) v2 v3 v4 v5))) (
 .row [.int 1, (.int (-1))]) :=
  (g_walk lt (T := t29) (t := t29p1) rfl rfl).trans (cg (lE rfl rfl) (cg (lE rfl rfl) rfl (cg rfl rfl rfl)) rfl)
theorem e30_0 (v0 : D) (v1 : D) (v2 : D) (v3 : D) (v4 : Int) : f30_0 v0 v1 v2 v3 (.int v4) =
  cond (decide (v4 < 0)) (
 .row []) (
 cond (decide (v4 < (len v3 : Int))) (
 cond (decide ((sl (f29_0 v0 v1 v2 v3 (cl v3 v4 0)) 0).toInt = 1)) (
 cond (decide ((sl (f29_0 v0 v1 v2 v3 (cl v3 v4 0)) 1).toInt < 0)) (
 .row [.int 1, (.bool false)]) (
 cond (decide ((sl (f29_0 v0 v1 v2 v3 (cl v3 v4 1)) 0).toInt = 1)) (
 cond (decide ((sl (f29_0 v0 v1 v2 v3 (cl v3 v4 1)) 1).toInt < 0)) (
 .row [.int 1, (.bool false)]) (
 cond (eqC (cl v3 v4 5) 0 0) (
 cond (decide ((cl v3 v4 6).toInt = 0)) (
 cond (decide ((cl v3 v4 7).toInt = 0)) (
 cond (decide ((cl v3 v4 8).toInt = 0)) (
 f30_1 (.int v4) (sl (f29_0 v0 v1 v2 v3 (cl v3 v4 0)) 1) (.int 0) v0 v1 v2 v3 (cl v3 v4 0) (cl v3 v4 1) (cl v3 v4 2) (cl v3 v4 3) (cl v3 v4 4) (cl v3 v4 5) (cl v3 v4 6) (cl v3 v4 7) (cl v3 v4 8)) (
 .row [.int 1, (.bool false)])) (
 .row [.int 1, (.bool false)])) (
 .row [.int 1, (.bool false)])) (
 cond (decide ((sl (f28_0 v0 v1 v2 v3 (cl v3 v4 5)) 0).toInt = 1)) (
 cond (decide ((sl (f28_0 v0 v1 v2 v3 (cl v3 v4 5)) 1).toInt < 0)) (
 .row [.int 1, (.bool false)]) (
 cond (decide ((cl v3 v4 6).toInt < 0)) (
 .row [.int 1, (.bool false)]) (
 cond (decide ((cl v3 v4 7).toInt < (cl v3 v4 6).toInt)) (
 .row [.int 1, (.bool false)]) (
 cond (decide ((sl (f28_0 v0 v1 v2 v3 (cl v3 v4 5)) 1).toInt < (len v2 : Int))) (
 cond (decide ((cl v2 (sl (f28_0 v0 v1 v2 v3 (cl v3 v4 5)) 1).toInt 1).toInt < (cl v3 v4 7).toInt)) (
 .row [.int 1, (.bool false)]) (
 cond (decide ((cl v3 v4 8).toInt < (-1000))) (
 .row [.int 1, (.bool false)]) (
 cond (decide (1000 < (cl v3 v4 8).toInt)) (
 .row [.int 1, (.bool false)]) (
 cond (decide ((IntKind.wrap .i64 ((cl v3 v4 6).toInt + (cl v3 v4 8).toInt)) < 0)) (
 .row [.int 1, (.bool false)]) (
 cond (decide ((cl v2 (sl (f28_0 v0 v1 v2 v3 (cl v3 v4 5)) 1).toInt 1).toInt < (IntKind.wrap .i64 ((cl v3 v4 7).toInt + (cl v3 v4 8).toInt)))) (
 .row [.int 1, (.bool false)]) (
 f30_1 (.int v4) (sl (f29_0 v0 v1 v2 v3 (cl v3 v4 0)) 1) (.int 0) v0 v1 v2 v3 (cl v3 v4 0) (cl v3 v4 1) (cl v3 v4 2) (cl v3 v4 3) (cl v3 v4 4) (cl v3 v4 5) (cl v3 v4 6) (cl v3 v4 7) (cl v3 v4 8))))))) (
 .row []))))) (
 .row [])))) (
 .row []))) (
 .row [])) (
 .row [])) :=
  (g_walk lt (T := t30) (t := t30p0) rfl rfl).trans (cg (lE rfl rfl) rfl (cg (lE rfl rfl) (cg (qE rfl rfl) (cg (lE rfl rfl) rfl (cg (qE rfl rfl) (cg (lE rfl rfl) rfl (cg rfl (cg (qE rfl rfl) (cg (qE rfl rfl) (cg (qE rfl rfl) rfl rfl) rfl) rfl) (cg (qE rfl rfl) (cg (lE rfl rfl) rfl (cg (lE rfl rfl) rfl (cg (lE rfl rfl) rfl (cg (lE rfl rfl) (cg (lE rfl rfl) rfl (cg (lE rfl rfl) rfl (cg (lE rfl rfl) rfl (cg (lE rfl rfl) rfl (cg (lE rfl rfl) rfl rfl))))) rfl)))) rfl))) rfl)) rfl) rfl))
theorem e30_1 (v0 : Int) (v1 : Int) (v2 : Int) (v3 : D) (v4 : D) (v5 : D) (v6 : D) (v7 : D) (v8 : D) (v9 : Int) (v10 : D) (v11 : D) (v12 : D) (v13 : Int) (v14 : Int) (v15 : Int) : f30_1 (.int v0) (.int v1) (.int v2) v3 v4 v5 v6 v7 v8 (.int v9) v10 v11 v12 (.int v13) (.int v14) (.int v15) =
  cond (decide (v2 < v0)) (
 cond (decide (v2 < 0)) (
 .row []) (
 cond (decide (v2 < (len v6 : Int))) (
 cond ((D.strEq (cl v6 v2 0) v7 && (D.strEq (cl v6 v2 1) v8 && (decide ((cl v6 v2 2).toInt = v9) && (D.strEq (cl v6 v2 3) v10 && (D.strEq (cl v6 v2 4) v11 && (D.strEq (cl v6 v2 5) v12 && (decide ((cl v6 v2 6).toInt = v13) && (decide ((cl v6 v2 7).toInt = v14) && decide ((cl v6 v2 8).toInt = v15)))))))))) (
 .row [.int 1, (.bool false)]) (
 f30_1 (.int v0) (.int v1) (.int (IntKind.wrap .i64 (v2 + 1))) v3 v4 v5 v6 v7 v8 (.int v9) v10 v11 v12 (.int v13) (.int v14) (.int v15))) (
 .row []))) (
 cond (decide (v9 = 1)) (
 cond (decide ((sl (f27_0 v10) 0).toInt = 1)) (
 cond ((sl (f27_0 v10) 1).toBool) (
 cond (decide ((sl (f27_0 v11) 0).toInt = 1)) (
 cond ((sl (f27_0 v11) 1).toBool) (
 .row [.int 1, (.bool (!D.strEq v11 v3))]) (
 .row [.int 1, (.bool false)])) (
 .row [])) (
 .row [.int 1, (.bool false)])) (
 .row [])) (
 cond (decide (v9 = 2)) (
 cond (decide ((sl (f27_0 v10) 0).toInt = 1)) (
 cond ((sl (f27_0 v10) 1).toBool) (
 cond (decide ((sl (f27_0 v11) 0).toInt = 1)) (
 cond ((sl (f27_0 v11) 1).toBool) (
 .row [.int 1, (.bool (!D.strEq v11 v3))]) (
 .row [.int 1, (.bool false)])) (
 .row [])) (
 .row [.int 1, (.bool false)])) (
 .row [])) (
 cond (decide (v9 = 3)) (
 cond (eqC v10 0 0) (
 cond (eqC v11 0 0) (
 cond (decide (v1 < 0)) (
 .row []) (
 cond (decide (v1 < (len v4 : Int))) (
 .row [.int 1, (.bool (decide (0 < (cl v4 v1 2).toInt)))]) (
 .row []))) (
 .row [.int 1, (.bool false)])) (
 .row [.int 1, (.bool false)])) (
 cond (decide (v9 = 4)) (
 cond (eqC v10 0 0) (
 .row [.int 1, (.bool (eqC v11 0 0))]) (
 .row [.int 1, (.bool false)])) (
 .row [.int 1, (.bool false)]))))) :=
  (g_walk lt (T := t30) (t := t30p1) rfl rfl).trans (cg (lE rfl rfl) (cg (lE rfl rfl) rfl (cg (lE rfl rfl) (cg (aE rfl (aE rfl (aE (qE rfl rfl) (aE rfl (aE rfl (aE rfl (aE (qE rfl rfl) (aE (qE rfl rfl) (qE rfl rfl))))))))) rfl rfl) rfl)) (cg (qE rfl rfl) (cg (qE rfl rfl) (cg rfl (cg (qE rfl rfl) (cg rfl rfl rfl) rfl) rfl) rfl) (cg (qE rfl rfl) (cg (qE rfl rfl) (cg rfl (cg (qE rfl rfl) (cg rfl rfl rfl) rfl) rfl) rfl) (cg (qE rfl rfl) (cg rfl (cg rfl (cg (lE rfl rfl) rfl (cg (lE rfl rfl) rfl rfl)) rfl) rfl) (cg (qE rfl rfl) (cg rfl rfl rfl) rfl)))))
theorem e31_0 (v0 : D) (v1 : D) (v2 : D) (v3 : D) : f31_0 v0 v1 v2 v3 =
  cond (decide ((sl (f27_0 v0) 0).toInt = 1)) (
 cond ((sl (f27_0 v0) 1).toBool) (
 cond (decide (4 < (len v2 : Int))) (
 .row [.int 1, (.int 4), (.int 291)]) (
 f31_1 (.int 0) v0 v1 v2 v3)) (
 .row [.int 1, (.int 0), (.int 290)])) (
 .row []) :=
  (g_walk lt (T := t31) (t := t31p0) rfl rfl).trans (cg (qE rfl rfl) (cg rfl (cg (lE rfl rfl) rfl rfl) rfl) rfl)
theorem e31_1 (v0 : Int) (v1 : D) (v2 : D) (v3 : D) (v4 : D) : f31_1 (.int v0) v1 v2 v3 v4 =
  cond (decide (v0 < (len v3 : Int))) (
 cond (decide (v0 < 0)) (
 .row []) (
 cond (decide ((sl (f27_0 (cl v3 v0 0)) 0).toInt = 1)) (
 cond ((sl (f27_0 (cl v3 v0 0)) 1).toBool) (
 cond (decide ((sl (f28_0 v1 v2 v3 v4 (cl v3 v0 0)) 0).toInt = 1)) (
 cond (decide ((sl (f28_0 v1 v2 v3 v4 (cl v3 v0 0)) 1).toInt = v0)) (
 cond (decide ((cl v3 v0 1).toInt < 1)) (
 .row [.int 1, (.int v0), (.int 291)]) (
 cond (decide (1000 < (cl v3 v0 1).toInt)) (
 .row [.int 1, (.int v0), (.int 291)]) (
 f31_1 (.int (IntKind.wrap .i64 (v0 + 1))) v1 v2 v3 v4))) (
 .row [.int 1, (.int v0), (.int 291)])) (
 .row [])) (
 .row [.int 1, (.int v0), (.int 291)])) (
 .row []))) (
 cond (decide ((len v2 : Int) = 0)) (
 .row [.int 1, (.int 0), (.int 292)]) (
 cond (decide (24 < (len v2 : Int))) (
 .row [.int 1, (.int 24), (.int 292)]) (
 f31_2 (.int 0) v1 v2 v3 v4))) :=
  (g_walk lt (T := t31) (t := t31p1) rfl rfl).trans (cg (lE rfl rfl) (cg (lE rfl rfl) rfl (cg (qE rfl rfl) (cg rfl (cg (qE rfl rfl) (cg (qE rfl rfl) (cg (lE rfl rfl) rfl (cg (lE rfl rfl) rfl rfl)) rfl) rfl) rfl) rfl)) (cg (qE rfl rfl) rfl (cg (lE rfl rfl) rfl rfl)))
theorem e31_2 (v0 : Int) (v1 : D) (v2 : D) (v3 : D) (v4 : D) : f31_2 (.int v0) v1 v2 v3 v4 =
  cond (decide (v0 < (len v2 : Int))) (
 cond (decide (v0 < 0)) (
 .row []) (
 cond (decide ((sl (f27_0 (cl v2 v0 0)) 0).toInt = 1)) (
 cond ((sl (f27_0 (cl v2 v0 0)) 1).toBool) (
 cond (decide ((sl (f29_0 v1 v2 v3 v4 (cl v2 v0 0)) 0).toInt = 1)) (
 cond (decide ((sl (f29_0 v1 v2 v3 v4 (cl v2 v0 0)) 1).toInt = v0)) (
 cond (decide ((cl v2 v0 2).toInt < 0)) (
 .row [.int 1, (.int v0), (.int 292)]) (
 cond (decide (1048576 < (cl v2 v0 2).toInt)) (
 .row [.int 1, (.int v0), (.int 292)]) (
 f31_2 (.int (IntKind.wrap .i64 (v0 + 1))) v1 v2 v3 v4))) (
 .row [.int 1, (.int v0), (.int 292)])) (
 .row [])) (
 .row [.int 1, (.int v0), (.int 292)])) (
 .row []))) (
 cond (decide (80 < (len v4 : Int))) (
 .row [.int 1, (.int 80), (.int 293)]) (
 f31_3 (.int 0) v1 v2 v3 v4)) :=
  (g_walk lt (T := t31) (t := t31p2) rfl rfl).trans (cg (lE rfl rfl) (cg (lE rfl rfl) rfl (cg (qE rfl rfl) (cg rfl (cg (qE rfl rfl) (cg (qE rfl rfl) (cg (lE rfl rfl) rfl (cg (lE rfl rfl) rfl rfl)) rfl) rfl) rfl) rfl)) (cg (lE rfl rfl) rfl rfl))
theorem e31_3 (v0 : Int) (v1 : D) (v2 : D) (v3 : D) (v4 : D) : f31_3 (.int v0) v1 v2 v3 v4 =
  cond (decide (v0 < (len v4 : Int))) (
 cond (decide ((sl (f30_0 v1 v2 v3 v4 (.int v0)) 0).toInt = 1)) (
 cond ((sl (f30_0 v1 v2 v3 v4 (.int v0)) 1).toBool) (
 f31_3 (.int (IntKind.wrap .i64 (v0 + 1))) v1 v2 v3 v4) (
 .row [.int 1, (.int v0), (.int 293)])) (
 .row [])) (
 .row [.int 1, (.int 0), (.int 0)]) :=
  (g_walk lt (T := t31) (t := t31p3) rfl rfl).trans (cg (lE rfl rfl) (cg (qE rfl rfl) (cg rfl rfl rfl) rfl) rfl)
theorem e32_0 (v0 : D) (v1 : D) (v2 : D) (v3 : D) (v4 : D) : f32_0 v0 v1 v2 v3 v4 =
 f32_1 v4 (.int 0) v0 v1 v2 v3 :=
 (g_walk lt (T := t32) (t := t32p0) rfl rfl).trans rfl
theorem e32_1 (v0 : D) (v1 : Int) (v2 : D) (v3 : D) (v4 : D) (v5 : D) : f32_1 v0 (.int v1) v2 v3 v4 v5 =
  cond (decide (v1 < (len v4 : Int))) (
 cond (decide (v1 < 0)) (
 .row []) (
 cond (D.strEq (cl v4 v1 0) v0) (
 .row [.int 1, (.int v1)]) (
 f32_1 v0 (.int (IntKind.wrap .i64 (v1 + 1))) v2 v3 v4 v5))) (
 .row [.int 1, (.int (-1))]) :=
  (g_walk lt (T := t32) (t := t32p1) rfl rfl).trans (cg (lE rfl rfl) (cg (lE rfl rfl) rfl (cg rfl rfl rfl)) rfl)
theorem e34_0 (v0 : D) (v1 : D) (v2 : D) (v3 : D) (v4 : Bool) : f34_0 v0 v1 v2 v3 (.bool v4) =
  cond (D.strEq v0 v2) (
 cond (decide ((len v1 : Int) = (len v3 : Int))) (
 f34_1 (.int 0) v3 v0 v1 v2 (.bool v4)) (
 .row [.int 1, (.bool false)])) (
 .row [.int 1, (.bool false)]) :=
  (g_walk lt (T := t34) (t := t34p0) rfl rfl).trans (cg rfl (cg (qE rfl rfl) rfl rfl) rfl)
theorem e34_1 (v0 : Int) (v1 : D) (v2 : D) (v3 : D) (v4 : D) (v5 : Bool) : f34_1 (.int v0) v1 v2 v3 v4 (.bool v5) =
  cond (decide (v0 < (len v3 : Int))) (
 cond (decide (v0 < 0)) (
 .row []) (
 cond (decide (v0 < (len v1 : Int))) (
 cond (decide ((cl v3 v0 0).toInt = (cl v1 v0 0).toInt)) (
 f34_1 (.int (IntKind.wrap .i64 (v0 + 1))) v1 v2 v3 v4 (.bool v5)) (
 .row [.int 1, (.bool false)])) (
 .row []))) (
 .row [.int 1, (.bool true)]) :=
  (g_walk lt (T := t34) (t := t34p1) rfl rfl).trans (cg (lE rfl rfl) (cg (lE rfl rfl) rfl (cg (lE rfl rfl) (cg (qE rfl rfl) rfl rfl) rfl)) rfl)
theorem e35_0 (v0 : D) (v1 : Bool) (v2 : D) (v3 : D) (v4 : Bool) : f35_0 v0 (.bool v1) v2 v3 (.bool v4) =
 f35_1 v0 (.bool v1) (.int 0) v3 v2 (.bool v4) :=
 (g_walk lt (T := t35) (t := t35p0) rfl rfl).trans rfl
theorem e35_1 (v0 : D) (v1 : Bool) (v2 : Int) (v3 : D) (v4 : D) (v5 : Bool) : f35_1 v0 (.bool v1) (.int v2) v3 v4 (.bool v5) =
  cond (decide (v2 < (len v0 : Int))) (
 cond (decide (v2 < 0)) (
 .row []) (
 cond (decide ((sl (f34_0 (cl v0 v2 0) (cl v0 v2 1) v4 v3 (.bool v5)) 0).toInt = 1)) (
 cond ((sl (f34_0 (cl v0 v2 0) (cl v0 v2 1) v4 v3 (.bool v5)) 1).toBool) (
 .row [.int 1, (.bool true)]) (
 f35_1 v0 (.bool v1) (.int (IntKind.wrap .i64 (v2 + 1))) v3 v4 (.bool v5))) (
 .row []))) (
 .row [.int 1, (.bool false)]) :=
  (g_walk lt (T := t35) (t := t35p1) rfl rfl).trans (cg (lE rfl rfl) (cg (lE rfl rfl) rfl (cg (qE rfl rfl) (cg rfl rfl rfl) rfl)) rfl)
theorem e36_0 (v0 : D) (v1 : D) (v2 : D) (v3 : D) (v4 : D) (v5 : D) : f36_0 v0 v1 v2 v3 v4 v5 =
 f36_1 nilD (.bool true) (.int 0) v0 v1 v2 v3 v4 v5 :=
 (g_walk lt (T := t36) (t := t36p0) rfl rfl).trans rfl
theorem e36_1 (v0 : D) (v1 : Bool) (v2 : Int) (v3 : D) (v4 : D) (v5 : D) (v6 : D) (v7 : D) (v8 : D) : f36_1 v0 (.bool v1) (.int v2) v3 v4 v5 v6 v7 v8 =
  cond (decide (v2 < (len v6 : Int))) (
 cond (decide (v2 < 0)) (
 .row []) (
 cond (decide ((sl (f32_0 v3 v4 v5 v6 (cl v6 v2 5)) 0).toInt = 1)) (
 cond (D.strEq (cl v6 v2 0) v7) (
 cond (decide ((sl (f32_0 v3 v4 v5 v6 (cl v6 v2 5)) 1).toInt < 0)) (
 cond (decide ((len v0 : Int) < 1048576)) (
 f36_1 (ad v0 (.row [(.int v2)])) (.bool false) (.int (IntKind.wrap .i64 (v2 + 1))) v3 v4 v5 v6 v7 v8) (
 .row [])) (
 cond (decide ((sl (f32_0 v3 v4 v5 v6 (cl v6 v2 5)) 1).toInt < (len v8 : Int))) (
 cond (decide ((cl v8 (sl (f32_0 v3 v4 v5 v6 (cl v6 v2 5)) 1).toInt 0).toInt < (cl v6 v2 6).toInt)) (
 f36_1 v0 (.bool v1) (.int (IntKind.wrap .i64 (v2 + 1))) v3 v4 v5 v6 v7 v8) (
 cond (decide ((cl v6 v2 7).toInt < (cl v8 (sl (f32_0 v3 v4 v5 v6 (cl v6 v2 5)) 1).toInt 0).toInt)) (
 f36_1 v0 (.bool v1) (.int (IntKind.wrap .i64 (v2 + 1))) v3 v4 v5 v6 v7 v8) (
 cond (decide ((len v0 : Int) < 1048576)) (
 f36_1 (ad v0 (.row [(.int v2)])) (.bool false) (.int (IntKind.wrap .i64 (v2 + 1))) v3 v4 v5 v6 v7 v8) (
 .row [])))) (
 .row []))) (
 f36_1 v0 (.bool v1) (.int (IntKind.wrap .i64 (v2 + 1))) v3 v4 v5 v6 v7 v8)) (
 .row []))) (
 .row [.int 1, v0, (.bool v1)]) :=
  (g_walk lt (T := t36) (t := t36p1) rfl rfl).trans (cg (lE rfl rfl) (cg (lE rfl rfl) rfl (cg (qE rfl rfl) (cg rfl (cg (lE rfl rfl) (cg (lE rfl rfl) rfl rfl) (cg (lE rfl rfl) (cg (lE rfl rfl) rfl (cg (lE rfl rfl) rfl (cg (lE rfl rfl) rfl rfl))) rfl)) rfl) rfl)) rfl)
theorem e37_0 (v0 : D) (v1 : D) (v2 : D) (v3 : D) : f37_0 v0 v1 v2 v3 =
  cond (decide (0 < (len v1 : Int))) (
 cond (decide ((len v2 : Int) < 1048577)) (
 f37_1 (ad emptyD (.row [(cl v1 0 0), (ni (rp (len v2 : Int) (.row [(.int 0)])) false)])) (.bool false) (.int 0) v0 v1 v2 v3 nilD) (
 .row [])) (
 .row []) :=
  (g_walk lt (T := t37) (t := t37p0) rfl rfl).trans (cg (lE rfl rfl) (cg (lE rfl rfl) rfl rfl) rfl)
theorem e37_1 (v0 : D) (v1 : Bool) (v2 : Int) (v3 : D) (v4 : D) (v5 : D) (v6 : D) (v7 : D) : f37_1 v0 (.bool v1) (.int v2) v3 v4 v5 v6 v7 =
  cond (decide (v2 < (len v0 : Int))) (
 cond (decide (v2 < 0)) (
 .row []) (
 cond (decide ((sl (f36_0 v3 v4 v5 v6 (cl v0 v2 0) (cl v0 v2 1)) 0).toInt = 1)) (
 f37_2 v0 (.bool v1) (.int v2) (sl (f36_0 v3 v4 v5 v6 (cl v0 v2 0) (cl v0 v2 1)) 1) (sl (f36_0 v3 v4 v5 v6 (cl v0 v2 0) (cl v0 v2 1)) 2) (.int 0) v3 v4 v5 v6 nilD) (
 .row []))) (
 .row [.int 1, v0, (.bool v1), (.bool true)]) :=
  (g_walk lt (T := t37) (t := t37p1) rfl rfl).trans (cg (lE rfl rfl) (cg (lE rfl rfl) rfl (cg (qE rfl rfl) rfl rfl)) rfl)
theorem e37_2 (v0 : D) (v1 : Bool) (v2 : Int) (v3 : D) (v4 : Bool) (v5 : Int) (v6 : D) (v7 : D) (v8 : D) (v9 : D) (v10 : D) : f37_2 v0 (.bool v1) (.int v2) v3 (.bool v4) (.int v5) v6 v7 v8 v9 v10 =
  cond (decide (v5 < (len v3 : Int))) (
 cond (decide (v2 < 0)) (
 .row []) (
 cond (decide (v2 < (len v0 : Int))) (
 cond (decide (v5 < 0)) (
 .row []) (
 cond (decide ((cl v3 v5 0).toInt < 0)) (
 .row []) (
 cond (decide ((cl v3 v5 0).toInt < (len v9 : Int))) (
 cond (decide ((len (cl v0 v2 1) : Int) < 1048576)) (
 cond (decide ((sl (f32_0 v6 v7 v8 v9 (cl v9 (cl v3 v5 0).toInt 5)) 0).toInt = 1)) (
 cond (decide ((sl (f32_0 v6 v7 v8 v9 (cl v9 (cl v3 v5 0).toInt 5)) 1).toInt < 0)) (
 cond (decide ((sl (f35_0 v0 (.bool v1) (cl v9 (cl v3 v5 0).toInt 1) (ct nilD (cl v0 v2 1)) (.bool (true && decide ((len (cl v0 v2 1) : Int) = 0)))) 0).toInt = 1)) (
 cond ((sl (f35_0 v0 (.bool v1) (cl v9 (cl v3 v5 0).toInt 1) (ct nilD (cl v0 v2 1)) (.bool (true && decide ((len (cl v0 v2 1) : Int) = 0)))) 1).toBool) (
 cond (decide (2000 < (len v0 : Int))) (
 .row [.int 1, nilD, (.bool true), (.bool false)]) (
 f37_2 v0 (.bool v1) (.int v2) v3 (.bool v4) (.int (IntKind.wrap .i64 (v5 + 1))) v6 v7 v8 v9 nilD)) (
 cond (decide ((len v0 : Int) < 1048576)) (
 cond (decide (2000 < (len (ad v0 (.row [(cl v9 (cl v3 v5 0).toInt 1), (ni (ct nilD (cl v0 v2 1)) ((true && decide ((len (cl v0 v2 1) : Int) = 0))))])) : Int))) (
 .row [.int 1, nilD, (.bool true), (.bool false)]) (
 f37_2 (ad v0 (.row [(cl v9 (cl v3 v5 0).toInt 1), (ni (ct nilD (cl v0 v2 1)) (decide ((len (cl v0 v2 1) : Int) = 0)))])) (.bool false) (.int v2) v3 (.bool v4) (.int (IntKind.wrap .i64 (v5 + 1))) v6 v7 v8 v9 nilD)) (
 .row []))) (
 .row [])) (
 cond (decide ((sl (f32_0 v6 v7 v8 v9 (cl v9 (cl v3 v5 0).toInt 5)) 1).toInt < (len (ct nilD (cl v0 v2 1)) : Int))) (
 cond (decide ((sl (f35_0 v0 (.bool v1) (cl v9 (cl v3 v5 0).toInt 1) (upd (ct nilD (cl v0 v2 1)) (sl (f32_0 v6 v7 v8 v9 (cl v9 (cl v3 v5 0).toInt 5)) 1).toInt 0 (.int (IntKind.wrap .i64 ((cl (ct nilD (cl v0 v2 1)) (sl (f32_0 v6 v7 v8 v9 (cl v9 (cl v3 v5 0).toInt 5)) 1).toInt 0).toInt + (cl v9 (cl v3 v5 0).toInt 8).toInt)))) (.bool (true && decide ((len (cl v0 v2 1) : Int) = 0)))) 0).toInt = 1)) (
 cond ((sl (f35_0 v0 (.bool v1) (cl v9 (cl v3 v5 0).toInt 1) (upd (ct nilD (cl v0 v2 1)) (sl (f32_0 v6 v7 v8 v9 (cl v9 (cl v3 v5 0).toInt 5)) 1).toInt 0 (.int (IntKind.wrap .i64 ((cl (ct nilD (cl v0 v2 1)) (sl (f32_0 v6 v7 v8 v9 (cl v9 (cl v3 v5 0).toInt 5)) 1).toInt 0).toInt + (cl v9 (cl v3 v5 0).toInt 8).toInt)))) (.bool (true && decide ((len (cl v0 v2 1) : Int) = 0)))) 1).toBool) (
 cond (decide (2000 < (len v0 : Int))) (
 .row [.int 1, nilD, (.bool true), (.bool false)]) (
 f37_2 v0 (.bool v1) (.int v2) v3 (.bool v4) (.int (IntKind.wrap .i64 (v5 + 1))) v6 v7 v8 v9 nilD)) (
 cond (decide ((len v0 : Int) < 1048576)) (
 cond (decide (2000 < (len (ad v0 (.row [(cl v9 (cl v3 v5 0).toInt 1), (ni (upd (ct nilD (cl v0 v2 1)) (sl (f32_0 v6 v7 v8 v9 (cl v9 (cl v3 v5 0).toInt 5)) 1).toInt 0 (.int (IntKind.wrap .i64 ((cl (ct nilD (cl v0 v2 1)) (sl (f32_0 v6 v7 v8 v9 (cl v9 (cl v3 v5 0).toInt 5)) 1).toInt 0).toInt + (cl v9 (cl v3 v5 0).toInt 8).toInt)))) ((true && decide ((len (cl v0 v2 1) : Int) = 0))))])) : Int))) (
 .row [.int 1, nilD, (.bool true), (.bool false)]) (
 f37_2 (ad v0 (.row [(cl v9 (cl v3 v5 0).toInt 1), (ni (upd (ct nilD (cl v0 v2 1)) (sl (f32_0 v6 v7 v8 v9 (cl v9 (cl v3 v5 0).toInt 5)) 1).toInt 0 (.int (IntKind.wrap .i64 ((cl (ct nilD (cl v0 v2 1)) (sl (f32_0 v6 v7 v8 v9 (cl v9 (cl v3 v5 0).toInt 5)) 1).toInt 0).toInt + (cl v9 (cl v3 v5 0).toInt 8).toInt)))) (decide ((len (cl v0 v2 1) : Int) = 0)))])) (.bool false) (.int v2) v3 (.bool v4) (.int (IntKind.wrap .i64 (v5 + 1))) v6 v7 v8 v9 nilD)) (
 .row []))) (
 .row [])) (
 .row []))) (
 .row [])) (
 .row [])) (
 .row [])))) (
 .row []))) (
 f37_1 v0 (.bool v1) (.int (IntKind.wrap .i64 (v2 + 1))) v6 v7 v8 v9 nilD) :=
  (g_walk lt (T := t37) (t := t37p2) rfl rfl).trans (cg (lE rfl rfl) (cg (lE rfl rfl) rfl (cg (lE rfl rfl) (cg (lE rfl rfl) rfl (cg (lE rfl rfl) rfl (cg (lE rfl rfl) (cg (lE rfl rfl) (cg (qE rfl rfl) (cg (lE rfl rfl) (cg (qE rfl rfl) (cg rfl (cg (lE rfl rfl) rfl rfl) (cg (lE rfl rfl) (cg (lE rfl rfl) rfl rfl) rfl)) rfl) (cg (lE rfl rfl) (cg (qE rfl rfl) (cg rfl (cg (lE rfl rfl) rfl rfl) (cg (lE rfl rfl) (cg (lE rfl rfl) rfl rfl) rfl)) rfl) rfl)) rfl) rfl) rfl))) rfl)) rfl)
theorem e38_0 (v0 : D) (v1 : D) (v2 : D) (v3 : D) : f38_0 v0 v1 v2 v3 =
  cond (D.strEq v0 v2) (
 cond (decide ((len v1 : Int) = (len v3 : Int))) (
 f38_1 (.int 0) v0 v1 v2 v3) (
 .row [.int 1, (.bool false)])) (
 .row [.int 1, (.bool false)]) :=
  (g_walk lt (T := t38) (t := t38p0) rfl rfl).trans (cg rfl (cg (qE rfl rfl) rfl rfl) rfl)
theorem e38_1 (v0 : Int) (v1 : D) (v2 : D) (v3 : D) (v4 : D) : f38_1 (.int v0) v1 v2 v3 v4 =
  cond (decide (v0 < (len v2 : Int))) (
 cond (decide (v0 < 0)) (
 .row []) (
 cond (decide (v0 < (len v4 : Int))) (
 cond (decide ((cl v2 v0 0).toInt = (cl v4 v0 0).toInt)) (
 f38_1 (.int (IntKind.wrap .i64 (v0 + 1))) v1 v2 v3 v4) (
 .row [.int 1, (.bool false)])) (
 .row []))) (
 .row [.int 1, (.bool true)]) :=
  (g_walk lt (T := t38) (t := t38p1) rfl rfl).trans (cg (lE rfl rfl) (cg (lE rfl rfl) rfl (cg (lE rfl rfl) (cg (qE rfl rfl) rfl rfl) rfl)) rfl)
theorem e39_0 (v0 : D) (v1 : D) (v2 : D) (v3 : D) : f39_0 v0 v1 v2 v3 =
  cond (decide (8 < (len v1 : Int))) (
 cond (decide ((sl (f0_0) 0).toInt = 1)) (
 .row [.int 1, (.bool true)]) (
 .row [])) (
 cond (decide (20 < (len v3 : Int))) (
 cond (decide ((sl (f0_0) 0).toInt = 1)) (
 .row [.int 1, (.bool true)]) (
 .row [])) (
 cond (decide (5 < (len v2 : Int))) (
 cond (decide ((sl (f0_0) 0).toInt = 1)) (
 .row [.int 1, (.bool true)]) (
 .row [])) (
 cond (decide ((sl (f26_0 v0 v1 v2 v3) 0).toInt = 1)) (
 cond (decide ((sl (f31_0 v0 v1 v2 v3) 0).toInt = 1)) (
 cond (decide ((sl (f31_0 v0 v1 v2 v3) 2).toInt = 0)) (
 cond (decide ((sl (f37_0 v0 v1 v2 v3) 0).toInt = 1)) (
 cond ((sl (f37_0 v0 v1 v2 v3) 3).toBool) (
 cond (decide ((sl (f26_0 v0 v1 v2 v3) 3).toInt = 0)) (
 cond (decide ((len (sl (f26_0 v0 v1 v2 v3) 1) : Int) = (len (sl (f37_0 v0 v1 v2 v3) 1) : Int))) (
 f39_1 (sl (f26_0 v0 v1 v2 v3) 1) (sl (f26_0 v0 v1 v2 v3) 2) (sl (f37_0 v0 v1 v2 v3) 1) (sl (f37_0 v0 v1 v2 v3) 2) (.int 0)) (
 .row [.int 1, (.bool false)])) (
 .row [.int 1, (.bool false)])) (
 cond (decide ((len (sl (f26_0 v0 v1 v2 v3) 1) : Int) = 0)) (
 cond (decide ((sl (f26_0 v0 v1 v2 v3) 3).toInt = 7)) (
 cond (decide ((sl (f0_0) 0).toInt = 1)) (
 .row [.int 1, (.bool true)]) (
 .row [])) (
 .row [.int 1, (.bool false)])) (
 .row [.int 1, (.bool false)]))) (
 .row [])) (
 cond (decide ((len (sl (f26_0 v0 v1 v2 v3) 1) : Int) = 0)) (
 cond (decide ((sl (f26_0 v0 v1 v2 v3) 3).toInt = 2)) (
 cond (decide ((sl (f0_0) 0).toInt = 1)) (
 .row [.int 1, (.bool true)]) (
 .row [])) (
 .row [.int 1, (.bool false)])) (
 .row [.int 1, (.bool false)]))) (
 .row [])) (
 .row [])))) :=
  (g_walk lt (T := t39) (t := t39p0) rfl rfl).trans (cg (lE rfl rfl) (cg (qE rfl rfl) rfl rfl) (cg (lE rfl rfl) (cg (qE rfl rfl) rfl rfl) (cg (lE rfl rfl) (cg (qE rfl rfl) rfl rfl) (cg (qE rfl rfl) (cg (qE rfl rfl) (cg (qE rfl rfl) (cg (qE rfl rfl) (cg rfl (cg (qE rfl rfl) (cg (qE rfl rfl) rfl rfl) rfl) (cg (qE rfl rfl) (cg (qE rfl rfl) (cg (qE rfl rfl) rfl rfl) rfl) rfl)) rfl) (cg (qE rfl rfl) (cg (qE rfl rfl) (cg (qE rfl rfl) rfl rfl) rfl) rfl)) rfl) rfl))))
theorem e39_1 (v0 : D) (v1 : Bool) (v2 : D) (v3 : Bool) (v4 : Int) : f39_1 v0 (.bool v1) v2 (.bool v3) (.int v4) =
  cond (decide (v4 < (len v0 : Int))) (
 cond (decide (v4 < 0)) (
 .row []) (
 cond (decide (v4 < (len v2 : Int))) (
 cond (decide ((sl (f38_0 (cl v0 v4 0) (cl v0 v4 1) (cl v2 v4 0) (cl v2 v4 1)) 0).toInt = 1)) (
 cond ((sl (f38_0 (cl v0 v4 0) (cl v0 v4 1) (cl v2 v4 0) (cl v2 v4 1)) 1).toBool) (
 f39_1 v0 (.bool v1) v2 (.bool v3) (.int (IntKind.wrap .i64 (v4 + 1)))) (
 .row [.int 1, (.bool false)])) (
 .row [])) (
 .row []))) (
 cond (decide ((sl (f0_0) 0).toInt = 1)) (
 .row [.int 1, (.bool true)]) (
 .row [])) :=
  (g_walk lt (T := t39) (t := t39p1) rfl rfl).trans (cg (lE rfl rfl) (cg (lE rfl rfl) rfl (cg (lE rfl rfl) (cg (qE rfl rfl) (cg rfl rfl rfl) rfl) rfl)) (cg (qE rfl rfl) rfl rfl))
end
end Ch
namespace Ch
open Go Go.AE
theorem sAt_range (v : D) (i : Int) : 0 ≤ sAt v i ∧ sAt v i < 256 := by
 unfold sAt
 have := ((v.toStr.data.toList[i.toNat]?).getD 0).toNat_lt
 omega
theorem len_byts {v : D} : len (byts v) = slen v := by
 show (List.map _ _).length = _
 simp [slen]
theorem cl_byts {v : D} {i : Nat} (h : i < slen v) : (cl (byts v) i 0).toInt = sAt v i := by
 unfold cl sAt byts
 have h' : i < v.toStr.data.toList.length := h
 simp [D.rows, List.getD_eq_getElem?_getD, List.getElem?_eq_getElem h', D.cells, D.toInt]
theorem wrap_u8 {x : Int} (h0 : 0 ≤ x) (h1 : x < 256) : IntKind.wrap .u8 x = x := by
 simp only [IntKind.wrap, IntKind.bits, IntKind.signed]
 have := Int.emod_eq_of_lt h0 h1
 simp_all
section
variable [While]
theorem name_loop {v : D} (hs : slen v ≤ 32) : ∀ (k i : Nat), i + k = slen v → 1 ≤ i → ∃ b, f1_1 (byts v) (.int (slen v : Nat)) (.int i) = .row [.int 1, .bool b] ∧ f27_1 v (.int i) = .row [.int 1, .bool b]
 | 0, i, hi, h1 => by
  refine ⟨true, ?_, ?_⟩
  ·rw [e1_1, ifF (by omega)]
  ·rw [e27_1, ifF (by omega)]
 | k + 1, i, hi, h1 => by
  obtain ⟨b, q1, q2⟩ := name_loop hs k (i + 1) (by omega) (by omega)
  have hr := sAt_range v i
  have hc := cl_byts (v := v) (i := i) (by omega)
  have A := e1_1 (byts v) (slen v : Nat) (i : Int)
  have B := e27_1 v (i : Int)
  rw [hc, wrap_u8 hr.1 hr.2, len_byts, wrap_i64 (by omega) (by omega), show (i : Int) + 1 = ((i + 1 : Nat) : Int) by omega, q1, ifT (by omega), ifF (by omega), ifT (by omega)] at A
  rw [wrap_i64 (by omega) (by omega), show (i : Int) + 1 = ((i + 1 : Nat) : Int) by omega, q2, ifT (by omega), ifF (by omega)] at B
  rw [A, B]
  have hi0 : decide ((i : Int) = 0) = false := decide_eq_false (by omega)
  rw [hi0]
  simp only [cond_false]
  generalize sAt v i = c
  by_cases c1 : c < 97
  ·simp only [ifT c1]
   by_cases c2 : c < 65
   ·simp only [ifT c2]
    by_cases c3 : c < 48
    ·simp only [ifT c3]; exact ⟨_, rfl, rfl⟩
    ·simp only [ifF c3]
     by_cases c4 : 57 < c
     ·simp only [ifT c4]; exact ⟨_, rfl, rfl⟩
     ·simp only [ifF c4]; exact ⟨_, rfl, rfl⟩
   ·simp only [ifF c2]
    by_cases c3 : 90 < c
    ·simp only [ifT c3]
     by_cases c4 : c = 95
     ·simp only [ifT c4]; exact ⟨_, rfl, rfl⟩
     ·simp only [ifF c4]; exact ⟨_, rfl, rfl⟩
    ·simp only [ifF c3]; exact ⟨_, rfl, rfl⟩
  ·simp only [ifF c1]
   by_cases c2 : 122 < c
   ·simp only [ifT c2]; exact ⟨_, by cases decide ((i : Int) = 0) <;> rfl, rfl⟩
   ·simp only [ifF c2]; exact ⟨_, rfl, rfl⟩
theorem name_eq (v : D) : ∃ b, f1_0 v = .row [.int 1, .bool b] ∧ f27_0 v = .row [.int 1, .bool b] := by
 rw [e1_0, e27_0]
 by_cases c1 : (slen v : Int) < 1
 ·simp only [ifT c1]; exact ⟨_, rfl, rfl⟩
 simp only [ifF c1]
 by_cases c2 : 32 < (slen v : Int)
 ·simp only [ifT c2]; exact ⟨_, rfl, rfl⟩
 simp only [ifF c2]
 obtain ⟨b, q1, q2⟩ := name_loop (v := v) (by omega) (slen v - 1) 1 (by omega) (Nat.le_refl _)
 have hr := sAt_range v (0 : Nat)
 have hc := cl_byts (v := v) (i := 0) (by omega)
 have A := e1_1 (byts v) (slen v : Nat) ((0 : Nat) : Int)
 have B := e27_1 v ((0 : Nat) : Int)
 rw [hc, wrap_u8 hr.1 hr.2, len_byts, wrap_i64 (by omega) (by omega), show ((0 : Nat) : Int) + 1 = ((1 : Nat) : Int) by omega, q1, ifT (by omega), ifF (by omega), ifT (by omega)] at A
 rw [wrap_i64 (by omega) (by omega), show ((0 : Nat) : Int) + 1 = ((1 : Nat) : Int) by omega, q2, ifT (by omega), ifF (by omega)] at B
 have z : ((0 : Nat) : Int) = 0 := rfl
 rw [z] at A B hr
 rw [len_byts, A, B]
 generalize sAt v 0 = c
 have hi0 : decide ((0 : Int) = 0) = true := rfl
 rw [hi0]
 simp only [cond_true]
 by_cases c3 : c = 95
 ·subst c3
  exact ⟨false, rfl, rfl⟩
 simp only [ifF c3]
 by_cases c4 : c < 97
 ·simp only [ifT c4]
  by_cases c5 : c < 65
  ·simp only [ifT c5]
   by_cases c6 : c < 48
   ·simp only [ifT c6]; exact ⟨_, rfl, rfl⟩
   ·simp only [ifF c6]
    by_cases c7 : 57 < c
    ·simp only [ifT c7]; exact ⟨_, rfl, rfl⟩
    ·simp only [ifF c7]; exact ⟨_, rfl, rfl⟩
  ·have c6 : ¬ c < 48 := by omega
   have c7 : 57 < c := by omega
   simp only [ifF c5, ifF c6, ifT c7]
   by_cases c8 : 90 < c
   ·simp only [ifT c8]; exact ⟨_, rfl, rfl⟩
   ·simp only [ifF c8]; exact ⟨_, rfl, rfl⟩
 ·have c6 : ¬ c < 48 := by omega
  have c7 : 57 < c := by omega
  simp only [ifF c4, ifF c6, ifT c7]
  by_cases c5 : 122 < c
  ·simp only [ifT c5]; exact ⟨_, rfl, rfl⟩
  ·simp only [ifF c5]; exact ⟨_, rfl, rfl⟩
end
end Ch
namespace Ch
open Go Go.AE
def fd (l key : D) : Int := fdG (fun j => D.strEq (cl l j 0) key) (len l) 0
theorem fd_lt {l key : D} : fd l key < len l := by
 have := fdG_lt (p := fun j => D.strEq (cl l j 0) key) (k := len l) (i := 0)
 unfold fd; omega
theorem fd_ge {l key : D} : fd l key = -1 ∨ 0 ≤ fd l key := by
 have := fdG_ge (p := fun j => D.strEq (cl l j 0) key) (k := len l) (i := 0)
 unfold fd; omega
theorem fd_self {l : D} {i : Nat} (h : i < len l) : 0 ≤ fd l (cl l i 0) ∧ fd l (cl l i 0) ≤ i := fdG_le (p := fun j => D.strEq (cl l j 0) (cl l i 0)) (Nat.zero_le _) (by omega) strEqD_refl
theorem fd_is {l key : D} (h : 0 ≤ fd l key) : D.strEq (cl l (fd l key) 0) key = true := by
 have := fdG_is (p := fun j => D.strEq (cl l j 0) key) (k := len l) (i := 0) h
 have e : ((fd l key).toNat : Int) = fd l key := by omega
 rw [← e]
 exact this
theorem find_form {F : Int → D} {l key : D} (hn : len l < 4611686018427387904) (h : ∀ i : Int, F i = cond (decide (i < (len l : Int))) (cond (decide (i < 0)) (.row []) (cond (D.strEq (cl l i 0) key) (.row [.int 1, .int i]) (F (IntKind.wrap .i64 (i + 1))))) (.row [.int 1, .int (-1)])) : F 0 = .row [.int 1, .int (fd l key)] := by
 refine find (F := fun i => F (i : Int)) (n := len l) (bad := fun j => D.strEq (cl l j 0) key) (fun j hj => ?_) ?_
 ·show F (j : Int) = _
  rw [h, ifT (by omega), ifF (by omega), wrapN (by omega)]
 ·show F (len l : Int) = _
  rw [h, ifF (by omega)]
section
variable [While]
variable {v0 v1 v2 v3 v4 v5 : D}
theorem f2_is (hn : len v0 < 4611686018427387904) (k : D) : f2_0 v0 k = .row [.int 1, .int (fd v0 k)] := (e2_0 ..).trans (find_form (F := fun i => f2_1 v0 (.int i) k) hn fun i => e2_1 ..)
theorem f4_is (hn : len v0 < 4611686018427387904) (k : D) : f4_0 v0 k = .row [.int 1, .int (fd v0 k)] := (e4_0 ..).trans (find_form (F := fun i => f4_1 v0 (.int i) k) hn fun i => e4_1 ..)
theorem f19_is (hn : len v0 < 4611686018427387904) (k : D) : f19_0 v0 k = .row [.int 1, .int (fd v0 k)] := (e19_0 ..).trans (find_form (F := fun i => f19_1 v0 (.int i) k) hn fun i => e19_1 ..)
theorem f28_is (hn : len v2 < 4611686018427387904) (k : D) : f28_0 v0 v1 v2 v3 k = .row [.int 1, .int (fd v2 k)] := (e28_0 ..).trans (find_form (F := fun i => f28_1 k (.int i) v0 v1 v2 v3) hn fun i => e28_1 ..)
theorem f29_is (hn : len v1 < 4611686018427387904) (k : D) : f29_0 v0 v1 v2 v3 k = .row [.int 1, .int (fd v1 k)] := (e29_0 ..).trans (find_form (F := fun i => f29_1 k (.int i) v0 v1 v2 v3) hn fun i => e29_1 ..)
theorem f32_is (hn : len v2 < 4611686018427387904) (k : D) : f32_0 v0 v1 v2 v3 k = .row [.int 1, .int (fd v2 k)] := (e32_0 ..).trans (find_form (F := fun i => f32_1 k (.int i) v0 v1 v2 v3) hn fun i => e32_1 ..)
def nm (v : D) : Bool := (sl (f27_0 v) 1).toBool
theorem f1_is (v : D) : f1_0 v = .row [.int 1, .bool (nm v)] := by
 obtain ⟨b, q1, q2⟩ := name_eq v
 rw [q1]
 unfold nm
 rw [q2]
 rfl
theorem f27_is (v : D) : f27_0 v = .row [.int 1, .bool (nm v)] := by
 obtain ⟨b, q1, q2⟩ := name_eq v
 unfold nm
 rw [q2]
 rfl
def badC (v2 : D) (i : Nat) : Bool := !nm (cl v2 i 0) || decide (fd v2 (cl v2 i 0) < i) || decide ((cl v2 i 1).toInt < 1) || decide (1000 < (cl v2 i 1).toInt)
def badS (v1 : D) (i : Nat) : Bool := !nm (cl v1 i 0) || decide (fd v1 (cl v1 i 0) < i) || decide ((cl v1 i 2).toInt < 0) || decide (1048576 < (cl v1 i 2).toInt)
theorem f3_is (hn : len v2 < 1000) (v0 v1 v3 : D) : f3_0 (.int (len v2 : Nat)) (.int 0) (.int 4) v0 v1 v2 v3 = .row [.int 1, .int (cond (decide (4 < (len v2 : Int))) 4 (fdG (badC v2) (len v2) 0))] := by
 rw [e3_0, ifF (by omega)]
 by_cases c : 4 < (len v2 : Int)
 ·rw [ifT c, ifT c]
 rw [ifF c, ifF c]
 refine find (F := fun i => f3_1 (.int (len v2 : Nat)) (.int (i : Nat)) v0 v1 v2 v3) (n := len v2) (bad := badC v2) (fun j hj => ?_) ?_
 ·show f3_1 _ (.int (j : Nat)) _ _ _ _ = _
  rw [e3_1, ifT (by omega), ifF (by omega), ifT (by omega)]
  simp only [f1_is, f2_is (v0 := v2) (by omega), sl_row0, sl_rowS, toInt_int, toBool_bool, decide_true, cond_true, wrapN (i := j) (by omega)]
  unfold badC
  cases nm (cl v2 j 0) <;> cases decide (fd v2 (cl v2 j 0) < j) <;> cases decide ((cl v2 j 1).toInt < 1) <;> cases decide (1000 < (cl v2 j 1).toInt) <;> rfl
 ·show f3_1 _ (.int (len v2 : Nat)) _ _ _ _ = _
  rw [e3_1, ifF (by omega)]
theorem f5_is (hn : len v1 < 1000) (v0 v2 v3 : D) : f5_0 (.int (len v1 : Nat)) (.int 1) (.int 24) v0 v1 v2 v3 = .row [.int 1, .int (cond (decide ((len v1 : Int) < 1)) 0 (cond (decide (24 < (len v1 : Int))) 24 (fdG (badS v1) (len v1) 0)))] := by
 rw [e5_0]
 by_cases c : (len v1 : Int) < 1
 ·rw [ifT c, ifT c]
 rw [ifF c, ifF c]
 by_cases c : 24 < (len v1 : Int)
 ·rw [ifT c, ifT c]
 rw [ifF c, ifF c]
 refine find (F := fun i => f5_1 (.int (len v1 : Nat)) (.int (i : Nat)) v0 v1 v2 v3) (n := len v1) (bad := badS v1) (fun j hj => ?_) ?_
 ·show f5_1 _ (.int (j : Nat)) _ _ _ _ = _
  rw [e5_1, ifT (by omega), ifF (by omega), ifT (by omega)]
  simp only [f1_is, f4_is (v0 := v1) (by omega), sl_row0, sl_rowS, toInt_int, toBool_bool, decide_true, cond_true, wrapN (i := j) (by omega)]
  unfold badS
  cases nm (cl v1 j 0) <;> cases decide (fd v1 (cl v1 j 0) < j) <;> cases decide ((cl v1 j 2).toInt < 0) <;> cases decide (1048576 < (cl v1 j 2).toInt) <;> rfl
 ·show f5_1 _ (.int (len v1 : Nat)) _ _ _ _ = _
  rw [e5_1, ifF (by omega)]
end
end Ch
namespace Ch
open Go Go.AE
def sameS (v3 : D) (i j : Nat) : Bool := D.strEq (cl v3 j 0) (cl v3 i 0) && (D.strEq (cl v3 j 1) (cl v3 i 1) && (decide ((cl v3 j 2).toInt = (cl v3 i 2).toInt) && (D.strEq (cl v3 j 3) (cl v3 i 3) && (D.strEq (cl v3 j 4) (cl v3 i 4) && (D.strEq (cl v3 j 5) (cl v3 i 5) && (decide ((cl v3 j 6).toInt = (cl v3 i 6).toInt) && (decide ((cl v3 j 7).toInt = (cl v3 i 7).toInt) && decide ((cl v3 j 8).toInt = (cl v3 i 8).toInt))))))))
def dup (v3 : D) (i : Nat) : Bool := !decide (fdG (sameS v3 i) i 0 < 0)
def badG (v2 v3 : D) (i : Nat) : Bool := cond (eqC (cl v3 i 5) 0 0) (cond (decide ((cl v3 i 6).toInt = 0)) (cond (decide ((cl v3 i 7).toInt = 0)) (cond (decide ((cl v3 i 8).toInt = 0)) false true) true) true)
 (cond (decide (fd v2 (cl v3 i 5) < 0)) true (cond (decide ((cl v3 i 6).toInt < 0)) true (cond (decide ((cl v3 i 7).toInt < (cl v3 i 6).toInt)) true (cond (decide ((cl v3 i 8).toInt < (-1000))) true (cond (decide (1000 < (cl v3 i 8).toInt)) true
  (cond (decide ((cl v2 (fd v2 (cl v3 i 5)) 1).toInt < (cl v3 i 7).toInt)) true (cond (decide (IntKind.wrap .i64 ((cl v3 i 6).toInt + (cl v3 i 8).toInt) < 0)) true (cond (decide ((cl v2 (fd v2 (cl v3 i 5)) 1).toInt < IntKind.wrap .i64 ((cl v3 i 7).toInt + (cl v3 i 8).toInt))) true false))))))))
def StepOk (v3 : D) : Prop := ∀ i : Nat, i < len v3 → (∃ n, cl v3 i 2 = .int n) ∧ (∃ n, cl v3 i 6 = .int n) ∧ (∃ n, cl v3 i 7 = .int n) ∧ (∃ n, cl v3 i 8 = .int n) ∧ slen (cl v3 i 3) < 4611686018427387904 ∧ slen (cl v3 i 4) < 4611686018427387904
section
variable [While]
def badK (v0 v1 v3 : D) (i : Nat) : Bool := cond (decide ((cl v3 i 2).toInt = 1)) (cond (nm (cl v3 i 3)) (cond (nm (cl v3 i 4)) (D.strEq (cl v3 i 4) v0) true) true)
 (cond (decide ((cl v3 i 2).toInt = 2)) (cond (nm (cl v3 i 3)) (cond (nm (cl v3 i 4)) (D.strEq (cl v3 i 4) v0) true) true)
 (cond (decide ((cl v3 i 2).toInt = 3)) (cond (eqC (cl v3 i 3) 0 0) (cond (eqC (cl v3 i 4) 0 0) (!decide (0 < (cl v1 (fd v1 (cl v3 i 0)) 2).toInt)) true) true)
 (cond (decide ((cl v3 i 2).toInt = 4)) (cond (eqC (cl v3 i 3) 0 0) (cond (eqC (cl v3 i 4) 0 0) false true) true) true)))
def badT (v0 v1 v2 v3 : D) (i : Nat) : Bool := decide (fd v1 (cl v3 i 0) < 0) || (decide (fd v1 (cl v3 i 1) < 0) || (dup v3 i || (badK v0 v1 v3 i || badG v2 v3 i)))
variable {v0 v1 v2 v3 : D}
theorem f6_is (hs : StepOk v3) (hn : len v3 < 1000) {i : Nat} (hi : i < len v3) : ∃ n : Int, f6_0 (sb v3 0 i) (cl v3 i 0) (cl v3 i 1) (cl v3 i 2) (cl v3 i 3) (cl v3 i 4) (cl v3 i 5) (cl v3 i 6) (cl v3 i 7) (cl v3 i 8) = .row [.int 1, .int n] ∧ decide (n < 0) = !dup v3 i := by
 obtain ⟨⟨n2, h2⟩, ⟨n6, h6⟩, ⟨n7, h7⟩, ⟨n8, h8⟩, _⟩ := hs i hi
 refine ⟨fdG (sameS v3 i) i 0, ?_, by unfold dup; rw [Bool.not_not]⟩
 have hl : len (sb v3 0 i) = i := by
  have := len_sb (a := v3) (lo := 0) (hi := (i : Int)) (by omega) (by omega)
  omega
 rw [h2, h6, h7, h8, e6_0]
 refine find (F := fun j => f6_1 (sb v3 0 i) (.int (j : Nat)) (cl v3 i 0) (cl v3 i 1) (.int n2) (cl v3 i 3) (cl v3 i 4) (cl v3 i 5) (.int n6) (.int n7) (.int n8)) (n := i) (bad := sameS v3 i) (fun j hj => ?_) ?_
 ·show f6_1 (sb v3 0 i) (.int (j : Nat)) (cl v3 i 0) (cl v3 i 1) (.int n2) (cl v3 i 3) (cl v3 i 4) (cl v3 i 5) (.int n6) (.int n7) (.int n8) = _
  rw [e6_1, hl, ifT (by omega), ifF (by omega), wrapN (by omega)]
  simp only [cl_sb (a := v3) (i := i) (j := j) (by omega) hj]
  have e : (D.strEq (cl v3 i 0) (cl v3 j 0) && (D.strEq (cl v3 i 1) (cl v3 j 1) && (decide (n2 = (cl v3 j 2).toInt) && (D.strEq (cl v3 i 3) (cl v3 j 3) && (D.strEq (cl v3 i 4) (cl v3 j 4) && (D.strEq (cl v3 i 5) (cl v3 j 5) && (decide (n6 = (cl v3 j 6).toInt) && (decide (n7 = (cl v3 j 7).toInt) && decide (n8 = (cl v3 j 8).toInt))))))))) = sameS v3 i j := by
   unfold sameS
   rw [h2, h6, h7, h8]
   simp only [toInt_int]
   rw [strEqD_comm (a := cl v3 i 0), strEqD_comm (a := cl v3 i 1), strEqD_comm (a := cl v3 i 3), strEqD_comm (a := cl v3 i 4), strEqD_comm (a := cl v3 i 5)]
   rw [dComm (x := n2), dComm (x := n6), dComm (x := n7), dComm (x := n8)]
   rfl
  rw [e]
 ·show f6_1 (sb v3 0 i) (.int (i : Nat)) (cl v3 i 0) (cl v3 i 1) (.int n2) (cl v3 i 3) (cl v3 i 4) (cl v3 i 5) (.int n6) (.int n7) (.int n8) = _
  rw [e6_1, hl, ifF (by omega)]
theorem f7_step (hs : StepOk v3) (hn : len v3 < 1000) (hn1 : len v1 < 1000) (hn2 : len v2 < 1000) {i : Nat} (hi : i < len v3) : f7_1 (.int (len v3 : Nat)) (.int (i : Nat)) v0 v1 v2 v3 = cond (badT v0 v1 v2 v3 i) (.row [.int 1, .int (i : Nat)]) (f7_1 (.int (len v3 : Nat)) (.int (i + 1 : Nat)) v0 v1 v2 v3) := by
 obtain ⟨n, h6, hd⟩ := f6_is hs hn hi
 obtain ⟨_, _, _, _, h3, h4⟩ := hs i hi
 rw [e7_1 (h0 := rfl) (h1 := rfl) (h2 := rfl), ifT (by omega), ifF (by omega), ifT (by omega)]
 have a1 := fd_lt (l := v1) (key := cl v3 i 0)
 have a2 := fd_lt (l := v2) (key := cl v3 i 5)
 have d1 : decide ((slen (cl v3 i 3) : Int) < 4611686018427387904) = true := decide_eq_true (by omega)
 have d2 : decide ((slen (cl v3 i 4) : Int) < 4611686018427387904) = true := decide_eq_true (by omega)
 have d3 : decide ((len v3 : Int) < i) = false := decide_eq_false (by omega)
 simp only [h6, hd, f1_is, f2_is (v0 := v2) (by omega), f4_is (v0 := v1) (by omega), sl_row0, sl_rowS, toInt_int, toBool_bool, decide_true, cond_true, cond_false, wrapN (i := i) (by omega), decide_eq_true a1, decide_eq_true a2, d1, d2, d3, sCat_empty]
 unfold badT badK
 generalize f7_1 (.int (len v3 : Nat)) (.int (i + 1 : Nat)) v0 v1 v2 v3 = X
 generalize hY : (D.row [.int 1, .int (i : Nat)]) = Y
 cases decide (fd v1 (cl v3 i 0) < 0) <;> cases decide (fd v1 (cl v3 i 1) < 0) <;> cases dup v3 i <;> simp only [cond_true, cond_false, Bool.true_or, Bool.false_or, Bool.not_true, Bool.not_false, Bool.cond_self]
 unfold badG
 by_cases k1 : (cl v3 i 2).toInt = 1
 ·simp only [ifT k1]
  cases nm (cl v3 i 3) <;> cases nm (cl v3 i 4) <;> cases D.strEq (cl v3 i 4) v0 <;> simp only [cond_true, cond_false, Bool.true_or, Bool.false_or]
  repeat' (refine cSplit (fun h => ?_) (fun h => ?_)) <;> simp only [*, cond_true, cond_false]
 simp only [ifF k1]
 by_cases k2 : (cl v3 i 2).toInt = 2
 ·simp only [ifT k2]
  cases nm (cl v3 i 3) <;> cases nm (cl v3 i 4) <;> cases D.strEq (cl v3 i 4) v0 <;> simp only [cond_true, cond_false, Bool.true_or, Bool.false_or]
  repeat' (refine cSplit (fun h => ?_) (fun h => ?_)) <;> simp only [*, cond_true, cond_false]
 simp only [ifF k2]
 by_cases k3 : (cl v3 i 2).toInt = 3
 ·simp only [ifT k3]
  cases eqC (cl v3 i 3) 0 0 <;> cases eqC (cl v3 i 4) 0 0 <;> cases decide (0 < (cl v1 (fd v1 (cl v3 i 0)) 2).toInt) <;> simp only [cond_true, cond_false, Bool.true_or, Bool.false_or, Bool.and_true, Bool.true_and, Bool.and_false, Bool.false_and, Bool.not_true, Bool.not_false]
  repeat' (refine cSplit (fun h => ?_) (fun h => ?_)) <;> simp only [*, cond_true, cond_false]
 simp only [ifF k3]
 by_cases k4 : (cl v3 i 2).toInt = 4
 ·simp only [ifT k4]
  cases eqC (cl v3 i 3) 0 0 <;> cases eqC (cl v3 i 4) 0 0 <;> simp only [cond_true, cond_false, Bool.true_or, Bool.false_or, Bool.and_true, Bool.true_and, Bool.and_false, Bool.false_and, Bool.not_true, Bool.not_false]
  repeat' (refine cSplit (fun h => ?_) (fun h => ?_)) <;> simp only [*, cond_true, cond_false]
 simp only [ifF k4, cond_true, Bool.true_or]
theorem f7_is (hs : StepOk v3) (hn : len v3 < 1000) (hn1 : len v1 < 1000) (hn2 : len v2 < 1000) (v0 : D) : f7_0 (.int (len v3 : Nat)) (.int 0) (.int 80) v0 v1 v2 v3 = .row [.int 1, .int (cond (decide (80 < (len v3 : Int))) 80 (fdG (badT v0 v1 v2 v3) (len v3) 0))] := by
 rw [e7_0, ifF (by omega)]
 by_cases c : 80 < (len v3 : Int)
 ·rw [ifT c, ifT c]
 rw [ifF c, ifF c]
 refine find (F := fun i => f7_1 (.int (len v3 : Nat)) (.int (i : Nat)) v0 v1 v2 v3) (n := len v3) (bad := badT v0 v1 v2 v3) (fun j hj => f7_step hs hn hn1 hn2 hj) ?_
 show f7_1 _ (.int (len v3 : Nat)) _ _ _ _ = _
 rw [e7_1 (h0 := rfl) (h1 := rfl) (h2 := rfl), ifF (by omega)]
theorem f30_loop (hs : StepOk v3) (hn : len v3 < 1000) (hn1 : len v1 < 1000) (hn2 : len v2 < 1000) {i : Nat} (hi : i < len v3) (hf : 0 ≤ fd v1 (cl v3 i 0)) : f30_1 (.int (i : Nat)) (.int (fd v1 (cl v3 i 0))) (.int 0) v0 v1 v2 v3 (cl v3 i 0) (cl v3 i 1) (cl v3 i 2) (cl v3 i 3) (cl v3 i 4) (cl v3 i 5) (cl v3 i 6) (cl v3 i 7) (cl v3 i 8) = .row [.int 1, .bool (!(dup v3 i || badK v0 v1 v3 i))] := by
 obtain ⟨⟨n2, h2⟩, ⟨n6, h6⟩, ⟨n7, h7⟩, ⟨n8, h8⟩, h3, h4⟩ := hs i hi
 have L := look (F := fun j => f30_1 (.int (i : Nat)) (.int (fd v1 (cl v3 i 0))) (.int (j : Nat)) v0 v1 v2 v3 (cl v3 i 0) (cl v3 i 1) (cl v3 i 2) (cl v3 i 3) (cl v3 i 4) (cl v3 i 5) (cl v3 i 6) (cl v3 i 7) (cl v3 i 8)) (n := i) (bad := sameS v3 i) (B := fun _ => .row [.int 1, .bool false]) (fun j hj => by
  show f30_1 (.int (i : Nat)) (.int (fd v1 (cl v3 i 0))) (.int (j : Nat)) v0 v1 v2 v3 (cl v3 i 0) (cl v3 i 1) (cl v3 i 2) (cl v3 i 3) (cl v3 i 4) (cl v3 i 5) (cl v3 i 6) (cl v3 i 7) (cl v3 i 8) = cond _ _ (f30_1 (.int (i : Nat)) (.int (fd v1 (cl v3 i 0))) (.int (j + 1 : Nat)) v0 v1 v2 v3 (cl v3 i 0) (cl v3 i 1) (cl v3 i 2) (cl v3 i 3) (cl v3 i 4) (cl v3 i 5) (cl v3 i 6) (cl v3 i 7) (cl v3 i 8))
  have e : (D.strEq (cl v3 j 0) (cl v3 i 0) && (D.strEq (cl v3 j 1) (cl v3 i 1) && (decide ((cl v3 j 2).toInt = n2) && (D.strEq (cl v3 j 3) (cl v3 i 3) && (D.strEq (cl v3 j 4) (cl v3 i 4) && (D.strEq (cl v3 j 5) (cl v3 i 5) && (decide ((cl v3 j 6).toInt = n6) && (decide ((cl v3 j 7).toInt = n7) && decide ((cl v3 j 8).toInt = n8))))))))) = sameS v3 i j := by
   unfold sameS
   rw [h2, h6, h7, h8]
   rfl
  rw [← e, h2, h6, h7, h8, e30_1, ifT (by omega), ifF (by omega), ifT (by omega), wrapN (by omega)])
 have L : f30_1 (.int (i : Nat)) (.int (fd v1 (cl v3 i 0))) (.int 0) v0 v1 v2 v3 (cl v3 i 0) (cl v3 i 1) (cl v3 i 2) (cl v3 i 3) (cl v3 i 4) (cl v3 i 5) (cl v3 i 6) (cl v3 i 7) (cl v3 i 8) = cond (decide (fdG (sameS v3 i) i 0 < 0)) (f30_1 (.int (i : Nat)) (.int (fd v1 (cl v3 i 0))) (.int (i : Nat)) v0 v1 v2 v3 (cl v3 i 0) (cl v3 i 1) (cl v3 i 2) (cl v3 i 3) (cl v3 i 4) (cl v3 i 5) (cl v3 i 6) (cl v3 i 7) (cl v3 i 8)) (.row [.int 1, .bool false]) := L
 rw [L]
 have e : decide (fdG (sameS v3 i) i 0 < 0) = !dup v3 i := by unfold dup; rw [Bool.not_not]
 rw [e]
 cases dup v3 i
 ·show f30_1 (.int (i : Nat)) (.int (fd v1 (cl v3 i 0))) (.int (i : Nat)) v0 v1 v2 v3 (cl v3 i 0) (cl v3 i 1) (cl v3 i 2) (cl v3 i 3) (cl v3 i 4) (cl v3 i 5) (cl v3 i 6) (cl v3 i 7) (cl v3 i 8) = .row [.int 1, .bool (!badK v0 v1 v3 i)]
  have a1 := fd_lt (l := v1) (key := cl v3 i 0)
  have t2 : (cl v3 i 2).toInt = n2 := by rw [h2]; rfl
  have R : f30_1 (.int (i : Nat)) (.int (fd v1 (cl v3 i 0))) (.int (i : Nat)) v0 v1 v2 v3 (cl v3 i 0) (cl v3 i 1) (.int n2) (cl v3 i 3) (cl v3 i 4) (cl v3 i 5) (.int n6) (.int n7) (.int n8) = .row [.int 1, .bool (!badK v0 v1 v3 i)] := by
   rw [e30_1, ifF (by omega)]
   simp only [f27_is, sl_row0, sl_rowS, toInt_int, toBool_bool, decide_true, cond_true, decide_eq_true a1, decide_eq_false (show ¬ fd v1 (cl v3 i 0) < 0 by omega), cond_false]
   unfold badK
   by_cases k1 : n2 = 1
   ·rw [ifT k1, ifT (t2.trans k1)]
    cases nm (cl v3 i 3) <;> cases nm (cl v3 i 4) <;> rfl
   rw [ifF k1, ifF (p := (cl v3 i 2).toInt = 1) (by omega)]
   by_cases k2 : n2 = 2
   ·rw [ifT k2, ifT (t2.trans k2)]
    cases nm (cl v3 i 3) <;> cases nm (cl v3 i 4) <;> rfl
   rw [ifF k2, ifF (p := (cl v3 i 2).toInt = 2) (by omega)]
   by_cases k3 : n2 = 3
   ·rw [ifT k3, ifT (t2.trans k3)]
    cases eqC (cl v3 i 3) 0 0 <;> cases eqC (cl v3 i 4) 0 0 <;> simp only [cond_true, cond_false, Bool.not_true, Bool.not_false, Bool.not_not]
   rw [ifF k3, ifF (p := (cl v3 i 2).toInt = 3) (by omega)]
   by_cases k4 : n2 = 4
   ·rw [ifT k4, ifT (t2.trans k4)]
    cases eqC (cl v3 i 3) 0 0 <;> cases eqC (cl v3 i 4) 0 0 <;> rfl
   rw [ifF k4, ifF (p := (cl v3 i 2).toInt = 4) (by omega)]
   rfl
  rw [h2, h6, h7, h8]
  exact R
 ·rfl
theorem f30_is (hs : StepOk v3) (hn : len v3 < 1000) (hn1 : len v1 < 1000) (hn2 : len v2 < 1000) {i : Nat} (hi : i < len v3) : f30_0 v0 v1 v2 v3 (.int (i : Nat)) = .row [.int 1, .bool (!badT v0 v1 v2 v3 i)] := by
 rw [e30_0, ifF (by omega), ifT (by omega)]
 have a1 := fd_lt (l := v1) (key := cl v3 i 0)
 have a2 := fd_lt (l := v2) (key := cl v3 i 5)
 simp only [f28_is (v0 := v0) (v1 := v1) (v2 := v2) (v3 := v3) (by omega), f29_is (v0 := v0) (v1 := v1) (v2 := v2) (v3 := v3) (by omega), sl_row0, sl_rowS, toInt_int, toBool_bool, decide_true, cond_true, decide_eq_true a2]
 unfold badT
 by_cases c : fd v1 (cl v3 i 0) < 0
 ·rw [ifT c, decide_eq_true c]; rfl
 rw [ifF c, decide_eq_false c, f30_loop hs hn hn1 hn2 hi (by omega)]
 unfold badG
 cases decide (fd v1 (cl v3 i 1) < 0) <;> cases dup v3 i <;> cases badK v0 v1 v3 i <;> simp only [cond_true, cond_false, Bool.true_or, Bool.false_or, Bool.not_true, Bool.not_false]
 all_goals (repeat' (refine cSplit (fun h => ?_) (fun h => ?_))) <;> simp only [*, cond_true, cond_false, Bool.not_true, Bool.not_false, Bool.cond_self]
end
end Ch
namespace Ch
open Go Go.AE
section
variable [While]
variable {v0 v1 v2 v3 : D}
def fewC (v2 : D) : Int := cond (decide (4 < (len v2 : Int))) 4 (fdG (badC v2) (len v2) 0)
def fewS (v1 : D) : Int := cond (decide ((len v1 : Int) < 1)) 0 (cond (decide (24 < (len v1 : Int))) 24 (fdG (badS v1) (len v1) 0))
def fewT (v0 v1 v2 v3 : D) : Int := cond (decide (80 < (len v3 : Int))) 80 (fdG (badT v0 v1 v2 v3) (len v3) 0)
def rok (v0 v1 v2 v3 : D) : Bool := nm v0 && (decide (fewC v2 < 0) && (decide (fewS v1 < 0) && decide (fewT v0 v1 v2 v3 < 0)))
theorem f31c (hn : len v2 < 1000) : f31_1 (.int 0) v0 v1 v2 v3 = cond (decide (fdG (badC v2) (len v2) 0 < 0)) (f31_1 (.int (len v2 : Nat)) v0 v1 v2 v3) (.row [.int 1, .int (fdG (badC v2) (len v2) 0).toNat, .int 291]) :=
 look (F := fun j => f31_1 (.int (j : Nat)) v0 v1 v2 v3) (n := len v2) (bad := badC v2) (B := fun j => .row [.int 1, .int (j : Nat), .int 291]) fun j hj => by
  show f31_1 (.int (j : Nat)) v0 v1 v2 v3 = cond _ _ (f31_1 (.int (j + 1 : Nat)) v0 v1 v2 v3)
  have a := fd_self hj
  rw [e31_1, ifT (by omega), ifF (by omega), wrapN (by omega)]
  simp only [f27_is, f28_is (v0 := v0) (v1 := v1) (v2 := v2) (v3 := v3) (by omega), sl_row0, sl_rowS, toInt_int, toBool_bool, decide_true, cond_true]
  unfold badC
  by_cases q : fd v2 (cl v2 j 0) < j
  ·rw [ifF (by omega), decide_eq_true q]
   cases nm (cl v2 j 0) <;> rfl
  ·rw [ifT (by omega), decide_eq_false q]
   cases nm (cl v2 j 0) <;> cases decide ((cl v2 j 1).toInt < 1) <;> cases decide (1000 < (cl v2 j 1).toInt) <;> rfl
theorem f31s (hn : len v1 < 1000) : f31_2 (.int 0) v0 v1 v2 v3 = cond (decide (fdG (badS v1) (len v1) 0 < 0)) (f31_2 (.int (len v1 : Nat)) v0 v1 v2 v3) (.row [.int 1, .int (fdG (badS v1) (len v1) 0).toNat, .int 292]) :=
 look (F := fun j => f31_2 (.int (j : Nat)) v0 v1 v2 v3) (n := len v1) (bad := badS v1) (B := fun j => .row [.int 1, .int (j : Nat), .int 292]) fun j hj => by
  show f31_2 (.int (j : Nat)) v0 v1 v2 v3 = cond _ _ (f31_2 (.int (j + 1 : Nat)) v0 v1 v2 v3)
  have a := fd_self hj
  rw [e31_2, ifT (by omega), ifF (by omega), wrapN (by omega)]
  simp only [f27_is, f29_is (v0 := v0) (v1 := v1) (v2 := v2) (v3 := v3) (by omega), sl_row0, sl_rowS, toInt_int, toBool_bool, decide_true, cond_true]
  unfold badS
  by_cases q : fd v1 (cl v1 j 0) < j
  ·rw [ifF (by omega), decide_eq_true q]
   cases nm (cl v1 j 0) <;> rfl
  ·rw [ifT (by omega), decide_eq_false q]
   cases nm (cl v1 j 0) <;> cases decide ((cl v1 j 2).toInt < 0) <;> cases decide (1048576 < (cl v1 j 2).toInt) <;> rfl
theorem f31t (hs : StepOk v3) (hn : len v3 < 1000) (hn1 : len v1 < 1000) (hn2 : len v2 < 1000) : f31_3 (.int 0) v0 v1 v2 v3 = cond (decide (fdG (badT v0 v1 v2 v3) (len v3) 0 < 0)) (f31_3 (.int (len v3 : Nat)) v0 v1 v2 v3) (.row [.int 1, .int (fdG (badT v0 v1 v2 v3) (len v3) 0).toNat, .int 293]) :=
 look (F := fun j => f31_3 (.int (j : Nat)) v0 v1 v2 v3) (n := len v3) (bad := badT v0 v1 v2 v3) (B := fun j => .row [.int 1, .int (j : Nat), .int 293]) fun j hj => by
  show f31_3 (.int (j : Nat)) v0 v1 v2 v3 = cond _ _ (f31_3 (.int (j + 1 : Nat)) v0 v1 v2 v3)
  rw [e31_3, ifT (by omega), wrapN (by omega)]
  simp only [f30_is hs hn hn1 hn2 hj, sl_row0, sl_rowS, toInt_int, toBool_bool, decide_true, cond_true]
  cases badT v0 v1 v2 v3 j <;> rfl
theorem f31_is (hs : StepOk v3) (hn : len v3 < 1000) (hn1 : len v1 < 1000) (hn2 : len v2 < 1000) (v0 : D) : ∃ a e, f31_0 v0 v1 v2 v3 = .row [.int 1, .int a, .int e] ∧ decide (e = 0) = rok v0 v1 v2 v3 := by
 have E : ∀ a e : Int, e ≠ 0 → rok v0 v1 v2 v3 = false → ∃ a' e', D.row [.int 1, .int a, .int e] = .row [.int 1, .int a', .int e'] ∧ decide (e' = 0) = rok v0 v1 v2 v3 := fun a e h q => ⟨a, e, rfl, by rw [q]; exact decide_eq_false h⟩
 rw [e31_0]
 simp only [f27_is, sl_row0, sl_rowS, toInt_int, toBool_bool, decide_true, cond_true]
 cases c0 : nm v0
 ·exact E _ _ (by omega) (by unfold rok; rw [c0]; rfl)
 by_cases c1 : 4 < (len v2 : Int)
 ·rw [ifT c1]
  exact E _ _ (by omega) (by unfold rok fewC; rw [c0, ifT c1]; rfl)
 rw [ifF c1, f31c hn2]
 by_cases c2 : fdG (badC v2) (len v2) 0 < 0
 rotate_left
 ·rw [ifF c2]
  exact E _ _ (by omega) (by unfold rok fewC; rw [c0, ifF c1, decide_eq_false c2]; rfl)
 rw [ifT c2, e31_1, ifF (by omega)]
 have k1 : decide (fewC v2 < 0) = true := by unfold fewC; rw [ifF c1]; exact decide_eq_true c2
 by_cases c3 : (len v1 : Int) = 0
 ·rw [ifT c3]
  exact E _ _ (by omega) (by unfold rok; rw [c0, k1]; unfold fewS; rw [ifT (by omega)]; rfl)
 rw [ifF c3]
 by_cases c4 : 24 < (len v1 : Int)
 ·rw [ifT c4]
  exact E _ _ (by omega) (by unfold rok; rw [c0, k1]; unfold fewS; rw [ifF (by omega), ifT c4]; rfl)
 rw [ifF c4, f31s hn1]
 by_cases c5 : fdG (badS v1) (len v1) 0 < 0
 rotate_left
 ·rw [ifF c5]
  exact E _ _ (by omega) (by unfold rok; rw [c0, k1]; unfold fewS; rw [ifF (by omega), ifF c4, decide_eq_false c5]; rfl)
 rw [ifT c5, e31_2, ifF (by omega)]
 have k2 : decide (fewS v1 < 0) = true := by unfold fewS; rw [ifF (by omega), ifF c4]; exact decide_eq_true c5
 by_cases c6 : 80 < (len v3 : Int)
 ·rw [ifT c6]
  exact E _ _ (by omega) (by unfold rok; rw [c0, k1, k2]; unfold fewT; rw [ifT c6]; rfl)
 rw [ifF c6, f31t hs hn hn1 hn2]
 by_cases c7 : fdG (badT v0 v1 v2 v3) (len v3) 0 < 0
 rotate_left
 ·rw [ifF c7]
  exact E _ _ (by omega) (by unfold rok; rw [c0, k1, k2]; unfold fewT; rw [ifF c6, decide_eq_false c7]; rfl)
 rw [ifT c7, e31_3, ifF (by omega)]
 exact ⟨0, 0, rfl, by unfold rok; rw [c0, k1, k2]; unfold fewT; rw [ifF c6, decide_eq_true c7]; rfl⟩
end
end Ch
namespace Ch
open Go Go.AE
structure Rk (S C T : D) : Prop where
 s0 : 0 < len S
 s1 : len S < 1000
 c1 : len C ≤ 4
 t1 : len T ≤ 20
 sid : ∀ i : Nat, i < len S → fd S (cl S i 0) = i
 cid : ∀ i : Nat, i < len C → fd C (cl C i 0) = i
 lim : ∀ i : Nat, i < len C → 1 ≤ (cl C i 1).toInt ∧ (cl C i 1).toInt ≤ 1000
 cne : ∀ i : Nat, i < len C → eqC (cl C i 0) 0 0 = false
 cI : ∀ i : Nat, i < len C → ∃ m, cl C i 1 = .int m
 tI : StepOk T
 frm : ∀ i : Nat, i < len T → 0 ≤ fd S (cl T i 0)
 to : ∀ i : Nat, i < len T → 0 ≤ fd S (cl T i 1)
 ctr : ∀ i : Nat, i < len T → (eqC (cl T i 5) 0 0 = true ∧ fd C (cl T i 5) = -1) ∨ (eqC (cl T i 5) 0 0 = false ∧ 0 ≤ fd C (cl T i 5) ∧ 0 ≤ (cl T i 6).toInt ∧ (cl T i 6).toInt ≤ (cl T i 7).toInt ∧
  (cl T i 7).toInt ≤ (cl C (fd C (cl T i 5)) 1).toInt ∧ -1000 ≤ (cl T i 8).toInt ∧ (cl T i 8).toInt ≤ 1000 ∧ 0 ≤ (cl T i 6).toInt + (cl T i 8).toInt ∧ (cl T i 7).toInt + (cl T i 8).toInt ≤ (cl C (fd C (cl T i 5)) 1).toInt)
section
variable [While]
theorem nm_len {v : D} (h : nm v = true) : 1 ≤ slen v := by
 unfold nm at h
 rw [e27_0] at h
 by_cases c : (slen v : Int) < 1
 ·rw [ifT c] at h
  cases h
 ·omega
theorem rok_rk {v0 S C T : D} (h : rok v0 S C T = true) (hc : ∀ i : Nat, i < len C → ∃ m, cl C i 1 = .int m) (ht : StepOk T) (hS : len S ≤ 8) (hT : len T ≤ 20) : Rk S C T := by
 unfold rok at h
 simp only [Bool.and_eq_true] at h
 obtain ⟨_, h1, h2, h3⟩ := h
 unfold fewC at h1
 unfold fewS at h2
 unfold fewT at h3
 by_cases c1 : 4 < (len C : Int)
 ·rw [ifT c1] at h1; cases h1
 rw [ifF c1] at h1
 by_cases c2 : (len S : Int) < 1
 ·rw [ifT c2] at h2; cases h2
 rw [ifF c2, ifF (by omega)] at h2
 rw [ifF (by omega)] at h3
 have B1 : ∀ i, i < len C → badC C i = false := fun i hi => fdG_no (k := len C) (i := 0) (by omega) (.inr ⟨dT h1, by omega⟩)
 have B2 : ∀ i, i < len S → badS S i = false := fun i hi => fdG_no (k := len S) (i := 0) (by omega) (.inr ⟨dT h2, by omega⟩)
 have B3 : ∀ i, i < len T → badT v0 S C T i = false := fun i hi => fdG_no (k := len T) (i := 0) (by omega) (.inr ⟨dT h3, by omega⟩)
 have E1 : ∀ i, i < len C → nm (cl C i 0) = true ∧ fd C (cl C i 0) = i ∧ 1 ≤ (cl C i 1).toInt ∧ (cl C i 1).toInt ≤ 1000 := fun i hi => by
  have b := B1 i hi
  unfold badC at b
  simp only [Bool.or_eq_false_iff, Bool.not_eq_false'] at b
  have s := fd_self hi
  have b2 := dF b.1.1.2
  have b3 := dF b.1.2
  have b4 := dF b.2
  exact ⟨b.1.1.1, by omega, by omega, by omega⟩
 have ne : ∀ i, i < len C → eqC (cl C i 0) 0 0 = false := fun i hi => by
  rw [eqC_zero]
  have := nm_len (E1 i hi).1
  exact decide_eq_false (by omega)
 refine ⟨by omega, by omega, by omega, hT, fun i hi => ?_, fun i hi => (E1 i hi).2.1, fun i hi => (E1 i hi).2.2, ne, hc, ht, fun i hi => ?_, fun i hi => ?_, fun i hi => ?_⟩
 ·have b := B2 i hi
  unfold badS at b
  simp only [Bool.or_eq_false_iff] at b
  have s := fd_self hi
  have b2 := dF b.1.1.2
  omega
 ·have b := B3 i hi
  unfold badT at b
  simp only [Bool.or_eq_false_iff] at b
  exact Int.not_lt.1 (dF b.1)
 ·have b := B3 i hi
  unfold badT at b
  simp only [Bool.or_eq_false_iff] at b
  exact Int.not_lt.1 (dF b.2.1)
 ·have b := B3 i hi
  unfold badT at b
  simp only [Bool.or_eq_false_iff] at b
  have b := b.2.2.2.2
  unfold badG at b
  cases hz : eqC (cl T i 5) 0 0
  ·right
   rw [hz] at b
   simp only [cond_false] at b
   by_cases d1 : fd C (cl T i 5) < 0
   ·rw [ifT d1] at b; cases b
   rw [ifF d1] at b
   by_cases d2 : (cl T i 6).toInt < 0
   ·rw [ifT d2] at b; cases b
   rw [ifF d2] at b
   by_cases d3 : (cl T i 7).toInt < (cl T i 6).toInt
   ·rw [ifT d3] at b; cases b
   rw [ifF d3] at b
   by_cases d4 : (cl T i 8).toInt < -1000
   ·rw [ifT d4] at b; cases b
   rw [ifF d4] at b
   by_cases d5 : 1000 < (cl T i 8).toInt
   ·rw [ifT d5] at b; cases b
   rw [ifF d5] at b
   by_cases d6 : (cl C (fd C (cl T i 5)) 1).toInt < (cl T i 7).toInt
   ·rw [ifT d6] at b; cases b
   rw [ifF d6] at b
   have lt := fd_lt (l := C) (key := cl T i 5)
   have l := E1 (fd C (cl T i 5)).toNat (by omega)
   rw [show (((fd C (cl T i 5)).toNat : Nat) : Int) = fd C (cl T i 5) by omega] at l
   rw [wrap_i64 (by omega) (by omega), wrap_i64 (by omega) (by omega)] at b
   by_cases d7 : (cl T i 6).toInt + (cl T i 8).toInt < 0
   ·rw [ifT d7] at b; cases b
   rw [ifF d7] at b
   by_cases d8 : (cl C (fd C (cl T i 5)) 1).toInt < (cl T i 7).toInt + (cl T i 8).toInt
   ·rw [ifT d8] at b; cases b
   exact ⟨rfl, by omega, by omega, by omega, by omega, by omega, by omega, by omega, by omega⟩
  ·left
   refine ⟨rfl, ?_⟩
   rcases fd_ge (l := C) (key := cl T i 5) with g | g
   ·exact g
   exfalso
   have lt := fd_lt (l := C) (key := cl T i 5)
   have s := fd_is g
   have e : eqC (cl C (fd C (cl T i 5)) 0) 0 0 = eqC (cl T i 5) 0 0 := by
    rw [eqC_zero, eqC_zero]
    unfold slen
    rw [strEqD_iff.1 s]
   have l := ne (fd C (cl T i 5)).toNat (by omega)
   rw [show (((fd C (cl T i 5)).toNat : Nat) : Int) = fd C (cl T i 5) by omega] at l
   rw [e, hz] at l
   cases l
end
abbrev Key := Int × Int × Int × Int × Int
def kc (k : Key) : Nat → Int
 | 0 => k.2.1
 | 1 => k.2.2.1
 | 2 => k.2.2.2.1
 | 3 => k.2.2.2.2
 | _ => 0
structure KOk (S C : D) (k : Key) : Prop where
 s0 : 0 ≤ k.1
 s1 : k.1 < len S
 v0 : ∀ j : Nat, j < len C → 0 ≤ kc k j ∧ kc k j ≤ (cl C j 1).toInt
 v1 : ∀ j : Nat, len C ≤ j → kc k j = 0
def en (S C T : D) (k : Key) (s : Nat) : Bool := D.strEq (cl T s 0) (cl S k.1 0) && (decide (fd C (cl T s 5) < 0) || (!decide (kc k (fd C (cl T s 5)).toNat < (cl T s 6).toInt) && !decide ((cl T s 7).toInt < kc k (fd C (cl T s 5)).toNat)))
def nv (C T : D) (k : Key) (s j : Nat) : Int := if fd C (cl T s 5) = j then kc k j + (cl T s 8).toInt else kc k j
def nx (S C T : D) (k : Key) (s : Nat) : Key := (fd S (cl T s 1), nv C T k s 0, nv C T k s 1, nv C T k s 2, nv C T k s 3)
theorem kc_nx {S C T : D} {k : Key} {s j : Nat} (h : j < 4) : kc (nx S C T k s) j = nv C T k s j := by
 match j, h with
 | 0, _ => rfl
 | 1, _ => rfl
 | 2, _ => rfl
 | 3, _ => rfl
theorem kc_big {k : Key} {j : Nat} (h : 4 ≤ j) : kc k j = 0 := by
 match j, h with
 | j + 4, _ => rfl
theorem key_ext {k k' : Key} (h : k.1 = k'.1) (hv : ∀ j, j < 4 → kc k j = kc k' j) : k = k' := by
 obtain ⟨a, b, c, d, e⟩ := k
 obtain ⟨a', b', c', d', e'⟩ := k'
 have h0 := hv 0 (by omega)
 have h1 := hv 1 (by omega)
 have h2 := hv 2 (by omega)
 have h3 := hv 3 (by omega)
 simp only [kc] at h0 h1 h2 h3
 simp only at h
 subst h h0 h1 h2 h3
 rfl
theorem nx_ok {S C T : D} (hR : Rk S C T) {k : Key} (hk : KOk S C k) {s : Nat} (hs : s < len T) (he : en S C T k s = true) : KOk S C (nx S C T k s) := by
 have hc1 := hR.c1
 have lt := fd_lt (l := S) (key := cl T s 1)
 have ltc := fd_lt (l := C) (key := cl T s 5)
 refine ⟨hR.to s hs, lt, fun j hj => ?_, fun j hj => ?_⟩
 ·rw [kc_nx (by omega)]
  unfold nv
  have b := hk.v0 j hj
  by_cases c : fd C (cl T s 5) = j
  ·rw [if_pos c]
   unfold en at he
   simp only [Bool.and_eq_true, Bool.or_eq_true, Bool.not_eq_true', decide_eq_true_eq] at he
   obtain ⟨_, he⟩ := he
   rcases he with he | ⟨h1, h2⟩
   ·omega
   ·have h1 := dF h1
    have h2 := dF h2
    rw [c] at h1 h2
    rcases hR.ctr s hs with ⟨_, q⟩ | ⟨_, q1, q2, q3, q4, q5, q6, q7, q8⟩
    ·omega
    ·rw [c] at q4 q8
     have e : (j : Int).toNat = j := by omega
     rw [e] at h1 h2
     omega
  ·rw [if_neg c]
   exact b
 ·by_cases c : j < 4
  ·rw [kc_nx c]
   unfold nv
   rw [if_neg (by omega)]
   exact hk.v1 j hj
  ·exact kc_big (by omega)
end Ch
namespace Ch
open Go Go.AE
def bkR (C : D) (g : Nat → Int) (i : Nat) : List D := (List.range i).map fun (j : Nat) => .row [cl C j 0, cl C j 1, .int (g j)]
def bk (C : D) (g : Nat → Int) (i : Nat) : D := .slc (decide (i = 0)) (bkR C g i)
theorem bkR_get {C : D} {g : Nat → Int} {n j : Nat} {h : j < (bkR C g n).length} : (bkR C g n)[j]'h = .row [cl C j 0, cl C j 1, .int (g j)] := by simp [bkR]
theorem len_bk {C : D} {g : Nat → Int} {i : Nat} : len (bk C g i) = i := by unfold bk bkR len; simp [D.rows]
theorem cl_bk {C : D} {g : Nat → Int} {i j c : Nat} (h : j < i) : cl (bk C g i) j c = ([cl C j 0, cl C j 1, .int (g j)] : List D).getD c default := by
 show ((((List.range i).map fun (j : Nat) => D.row [cl C j 0, cl C j 1, .int (g j)])[j]?).getD default).cells.getD c default = _
 rw [List.getElem?_map, List.getElem?_range h]
 rfl
theorem ad_bk {C : D} {g : Nat → Int} {i : Nat} (h : g i = 0) {m : Int} (hm : cl C i 1 = .int m) : ad (bk C g i) (.row [cl C i 0, cl C i 1, .int 0]) = bk C g (i + 1) := by
 show D.slc false (bkR C g i ++ [_]) = D.slc (decide (i + 1 = 0)) (bkR C g (i + 1))
 unfold bkR
 rw [List.range_succ, List.map_append, decide_eq_false (by omega)]
 simp [h]
theorem fd_bk {C key : D} {g : Nat → Int} : fd (bk C g (len C)) key = fd C key := by
 unfold fd
 rw [len_bk]
 refine fdG_congr fun j _ hj => ?_
 show D.strEq (cl (bk C g (len C)) j 0) key = D.strEq (cl C j 0) key
 rw [cl_bk (by omega)]
 rfl
theorem upd_bk {C : D} {g : Nat → Int} {n i : Nat} {x : Int} (h : i < n) : upd (bk C g n) i 2 (.int x) = bk C (fun j => if j = i then x else g j) n := by
 show D.slc (decide (n = 0)) (List.modify (bkR C g n) i _) = .slc (decide (n = 0)) (bkR C _ n)
 congr 1
 refine List.ext_getElem (by simp [bkR]) fun j h1 h2 => ?_
 rw [List.getElem_modify]
 simp only [bkR_get]
 by_cases q : i = j
 ·rw [if_pos q, if_pos q.symm]
  rfl
 ·rw [if_neg q, if_neg (fun c : j = i => q c.symm)]
theorem bk_congr {C : D} {g g' : Nat → Int} {n : Nat} (h : ∀ j, j < n → g j = g' j) : bk C g n = bk C g' n := by
 unfold bk bkR
 congr 1
 refine List.map_congr_left fun j hj => ?_
 rw [h j (List.mem_range.1 hj)]
section
variable [While]
variable {S C T v0 : D}
theorem f9_is {l : D} {b : Bool} (hn : len l < 4611686018427387904) (k : D) : f9_0 l (.bool b) k = .row [.int 1, .int (fd l k)] := (e9_0 ..).trans (find_form (F := fun i => f9_1 l (.bool b) (.int i) k) hn fun i => e9_1 ..)
theorem f10_is (hR : Rk S C T) : f10_0 C = .row [.int 2, bk C (fun _ => 0) (len C), .bool (decide (len C = 0))] := by
 have hc := hR.c1
 rw [e10_0, ifF (by omega)]
 have L := look (F := fun i => f10_1 C (.int (i : Nat)) (bk C (fun _ => 0) i) (.bool (decide (i = 0)))) (n := len C) (bad := fun _ => false) (B := fun _ => .row []) (fun i hi => by
  show f10_1 C (.int (i : Nat)) (bk C (fun _ => 0) i) (.bool (decide (i = 0))) = f10_1 C (.int (i + 1 : Nat)) (bk C (fun _ => 0) (i + 1)) (.bool (decide (i + 1 = 0)))
  have l := hR.lim i hi
  obtain ⟨m, hm⟩ := hR.cI i hi
  have hf : fd (bk C (fun _ => 0) i) (cl C i 0) < 0 := by
   have : fd (bk C (fun _ => 0) i) (cl C i 0) = -1 := by
    unfold fd
    rw [len_bk]
    refine fdG_all fun j _ hj => ?_
    rw [cl_bk (by omega)]
    have n := fdG_no (p := fun j => D.strEq (cl C j 0) (cl C i 0)) (k := len C) (i := 0) (j := j) (by omega) (.inl (by have := hR.cid i hi; unfold fd at this; omega))
    exact n
   omega
  rw [e10_1, ifT (by omega), ifF (by omega), hR.cne i hi, cond_false, ifF (by omega), ifF (by omega), f9_is (by rw [len_bk]; omega)]
  dsimp +instances only [sl_row0, sl_rowS, toInt_int]
  rw [ifT rfl, ifT hf, len_bk, ifT (by omega), wrapN (by omega), ad_bk (g := fun _ => 0) rfl hm, decide_eq_false (by omega)])
 refine (show f10_1 C (.int 0) nilD (.bool true) = _ from L).trans ?_
 show cond _ (f10_1 C (.int (len C : Nat)) (bk C (fun _ => 0) (len C)) (.bool (decide (len C = 0)))) _ = _
 rw [fdG_all (fun _ _ _ => rfl), ifT (by omega), e10_1, ifF (by omega)]
theorem f12_is (hR : Rk S C T) {k : Key} (hk : KOk S C k) {vals : D} {b : Bool} (hl : len vals = len C) (hv : ∀ j : Nat, j < len C → cl vals j 0 = .int (kc k j)) : f12_0 (.bool true) (bk C (fun _ => 0) (len C)) (.bool b) vals = .row [.int 1, .int 0, bk C (kc k) (len C)] := by
 have hc := hR.c1
 rw [e12_0, cond_true, len_bk, ifT (by omega)]
 have L := look (F := fun i => f12_1 vals (.int (i : Nat)) (.bool true) (bk C (fun _ => 0) (len C)) (.bool b)) (n := len C) (bad := fun _ => false) (B := fun _ => .row []) (fun i hi => by
  show f12_1 vals (.int (i : Nat)) (.bool true) (bk C (fun _ => 0) (len C)) (.bool b) = f12_1 vals (.int (i + 1 : Nat)) (.bool true) (bk C (fun _ => 0) (len C)) (.bool b)
  have q := hk.v0 i hi
  rw [e12_1, ifT (by omega), ifF (by omega), hv i hi, toInt_int, ifF (by omega), len_bk, ifT (by omega), cl_bk hi]
  show cond (decide ((cl C i 1).toInt < _)) _ _ = _
  rw [ifF (by omega), wrapN (by omega)])
 refine (show f12_1 vals (.int 0) (.bool true) (bk C (fun _ => 0) (len C)) (.bool b) = _ from L).trans ?_
 show cond _ (f12_1 vals (.int (len C : Nat)) (.bool true) (bk C (fun _ => 0) (len C)) (.bool b)) _ = _
 rw [fdG_all (fun _ _ _ => rfl), ifT (by omega), e12_1, ifF (by omega), hl]
 have L := look (F := fun i => f12_2 vals (.int (len C : Nat)) (.int (i : Nat)) (.bool true) (bk C (fun j => if j < i then kc k j else 0) (len C)) (.bool b)) (n := len C) (bad := fun _ => false) (B := fun _ => .row []) (fun i hi => by
  show f12_2 vals (.int (len C : Nat)) (.int (i : Nat)) (.bool true) (bk C (fun j => if j < i then kc k j else 0) (len C)) (.bool b) = f12_2 vals (.int (len C : Nat)) (.int (i + 1 : Nat)) (.bool true) (bk C (fun j => if j < i + 1 then kc k j else 0) (len C)) (.bool b)
  rw [e12_2, ifT (by omega), ifF (by omega), ifT (by omega), len_bk, ifT (by omega), hv i hi, upd_bk hi, wrapN (by omega)]
  congr 1
  refine bk_congr fun j hj => ?_
  by_cases c : j = i
  ·rw [if_pos c, if_pos (by omega), c]
  ·rw [if_neg c]
   by_cases d : j < i
   ·rw [if_pos d, if_pos (by omega)]
   ·rw [if_neg d, if_neg (by omega)])
 refine ((by
  have e : bk C (fun j => if j < 0 then kc k j else 0) (len C) = bk C (fun _ => 0) (len C) := bk_congr fun j _ => if_neg (by omega)
  rw [← e]
  exact L) : f12_2 vals (.int (len C : Nat)) (.int 0) (.bool true) (bk C (fun _ => 0) (len C)) (.bool b) = cond (decide (fdG (fun _ => false) (len C) 0 < 0)) (f12_2 vals (.int (len C : Nat)) (.int (len C : Nat)) (.bool true) (bk C (fun j => if j < len C then kc k j else 0) (len C)) (.bool b)) (.row [])).trans ?_
 rw [fdG_all (fun _ _ _ => rfl), ifT (by omega), e12_2, ifF (by omega), bk_congr (g' := kc k) fun j hj => if_pos hj]
theorem f13_is (hR : Rk S C T) {k : Key} (hk : KOk S C k) : f13_0 (.int k.1) (.int k.2.1) (.int k.2.2.1) (.int k.2.2.2.1) (.int k.2.2.2.2) v0 S C T = .row [.int 2, .int (len C : Nat), .bool (decide (len C = 0)), bk C (kc k) (len C)] := by
 have hc := hR.c1
 rw [e13_0]
 simp only [f10_is hR, sl_row0, sl_rowS, toInt_int, Int.reduceEq, decide_false, decide_true, cond_true, cond_false, len_bk]
 by_cases n0 : (len C : Int) = 0
 ·rw [ifT n0, f12_is hR hk (by rw [len_emptyD]; omega) (fun j hj => by omega)]
  rfl
 rw [ifF n0]
 by_cases n1 : (len C : Int) = 1
 ·rw [ifT n1, f12_is hR hk (by rw [len_ad, len_emptyD]; omega) (fun j hj => by
   match j with
   | 0 => rfl
   | j + 1 => omega)]
  rfl
 rw [ifF n1]
 by_cases n2 : (len C : Int) = 2
 ·rw [ifT n2, f12_is hR hk (by rw [len_ad, len_ad, len_emptyD]; omega) (fun j hj => by
   match j with
   | 0 => rfl
   | 1 => rfl
   | j + 2 => omega)]
  rfl
 rw [ifF n2]
 by_cases n3 : (len C : Int) = 3
 ·rw [ifT n3, f12_is hR hk (by rw [len_ad, len_ad, len_ad, len_emptyD]; omega) (fun j hj => by
   match j with
   | 0 => rfl
   | 1 => rfl
   | 2 => rfl
   | j + 3 => omega)]
  rfl
 rw [ifF n3]
 have n4 : (len C : Int) = 4 := by omega
 rw [ifT n4, f12_is hR hk (by rw [len_ad, len_ad, len_ad, len_ad, len_emptyD]; omega) (fun j hj => by
   match j with
   | 0 => rfl
   | 1 => rfl
   | 2 => rfl
   | 3 => rfl
   | j + 4 => omega)]
 rfl
theorem f15_is (hR : Rk S C T) {g : Nat → Int} {b : Bool} {key : D} (h : 0 ≤ fd C key) : f15_0 (.bool true) (bk C g (len C)) (.bool b) key = .row [.int 1, .int (g (fd C key).toNat), .int 0] := by
 have hc := hR.c1
 have lt := fd_lt (l := C) (key := key)
 rw [e15_0, cond_true, f9_is (by rw [len_bk]; omega), fd_bk]
 dsimp +instances only [sl_row0, sl_rowS, toInt_int]
 rw [ifT rfl, ifF (by omega), len_bk, ifT (by omega)]
 have e : fd C key = ((fd C key).toNat : Nat) := by omega
 have q := cl_bk (C := C) (g := g) (i := len C) (j := (fd C key).toNat) (c := 2) (by omega)
 rw [← e] at q
 rw [q]
 rfl
def al (C T : D) (k : Key) (s : Nat) : Bool := decide (fd C (cl T s 5) < 0) || (!decide (kc k (fd C (cl T s 5)).toNat < (cl T s 6).toInt) && !decide ((cl T s 7).toInt < kc k (fd C (cl T s 5)).toNat))
theorem f16_is (hR : Rk S C T) {k : Key} (hk : KOk S C k) {b : Bool} {s : Nat} (hs : s < len T) : f16_0 (.bool true) (bk C (kc k) (len C)) (.bool b) (cl T s 0) (cl T s 1) (cl T s 2) (cl T s 3) (cl T s 4) (cl T s 5) (cl T s 6) (cl T s 7) (cl T s 8) = .row [.int 1, .bool (al C T k s), .int 0] := by
 have hc := hR.c1
 obtain ⟨⟨n2, h2⟩, ⟨n6, h6⟩, ⟨n7, h7⟩, ⟨n8, h8⟩, _⟩ := hR.tI s hs
 have ct := hR.ctr s hs
 rw [h6, h7, h8] at ct
 rw [h2, h6, h7, h8, e16_0, cond_true]
 simp only [toInt_int] at ct ⊢
 rcases ct with ⟨z, q⟩ | ⟨z, q1, q2, q3, q4, q5, q6, q7, q8⟩
 ·rw [z, cond_true]
  unfold al
  rw [q]
  rfl
 ·have lt := fd_lt (l := C) (key := cl T s 5)
  have e : fd C (cl T s 5) = ((fd C (cl T s 5)).toNat : Nat) := by omega
  have kv := hk.v0 (fd C (cl T s 5)).toNat (by omega)
  rw [← e] at kv
  rw [z, cond_false]
  have lim := hR.lim (fd C (cl T s 5)).toNat (by omega)
  rw [← e] at lim
  simp only [f15_is hR q1, f9_is (l := bk C (kc k) (len C)) (by rw [len_bk]; omega), fd_bk, sl_row0, sl_rowS, toInt_int, decide_true, cond_true, len_bk]
  have cq := cl_bk (C := C) (g := kc k) (i := len C) (j := (fd C (cl T s 5)).toNat) (c := 1) (by omega)
  rw [← e] at cq
  rw [cq]
  show cond (decide (fd C (cl T s 5) < 0)) _ _ = _
  rw [ifF (by omega), ifT (by omega)]
  have A : al C T k s = (!decide (kc k (fd C (cl T s 5)).toNat < n6) && !decide (n7 < kc k (fd C (cl T s 5)).toNat)) := by
   unfold al
   rw [h6, h7, decide_eq_false (show ¬ fd C (cl T s 5) < 0 by omega), Bool.false_or]
   rfl
  rw [A]
  by_cases a1 : kc k (fd C (cl T s 5)).toNat < n6
  ·rw [ifT (by exact a1), decide_eq_true a1]
   rfl
  rw [ifF (by exact a1), decide_eq_false a1]
  by_cases a2 : n7 < kc k (fd C (cl T s 5)).toNat
  ·rw [ifT (by exact a2), decide_eq_true a2]
   rfl
  rw [ifF (by exact a2), decide_eq_false a2, wrap_i64 (by omega) (by omega), ifF (by omega)]
  show D.row [.int 1, .bool (!decide (IntKind.wrap .i64 ((cl C (fd C (cl T s 5)) 1).toInt - kc k (fd C (cl T s 5)).toNat) < n8)), .int 0] = _
  rw [wrap_i64 (by omega) (by omega), decide_eq_false (by omega)]
  rfl
end
end Ch
namespace Ch
open Go Go.AE
def idxL (l : List Nat) : D := .slc l.isEmpty (l.map fun s => .row [.int (s : Nat)])
theorem len_idxL {l : List Nat} : len (idxL l) = l.length := by unfold idxL len; simp [D.rows]
theorem ad_idxL {l : List Nat} {s : Nat} : ad (idxL l) (.row [.int s]) = idxL (l ++ [s]) := by
 unfold idxL ad
 simp [D.rows]
theorem cl_idxL {l : List Nat} {j s : Nat} (h : l[j]? = some s) : cl (idxL l) j 0 = .int s := by
 show (((l.map fun (s : Nat) => D.row [.int s])[j]?).getD default).cells.getD 0 default = _
 rw [List.getElem?_map, h]
 rfl
theorem gather {F : List Nat → Nat → D} {p : Nat → Bool} {n : Nat} : ∀ {k i : Nat} {acc : List Nat}, i + k = n → acc.length ≤ i → (∀ (acc : List Nat) (j : Nat), j < n → acc.length ≤ j → F acc j = cond (p j) (F (acc ++ [j]) (j + 1)) (F acc (j + 1))) → F acc i = F (acc ++ (List.range' i k).filter p) n
 | 0, i, acc => fun h _ _ => by
  have : i = n := by omega
  subst this
  simp
 | k + 1, i, acc => fun h ha hs => by
  rw [hs acc i (by omega) ha, List.range'_succ]
  cases q : p i
  ·rw [cond_false, gather (k := k) (i := i + 1) (by omega) (by omega) hs, List.filter_cons_of_neg (by simp [q])]
  ·rw [cond_true, gather (k := k) (i := i + 1) (by omega) (by simp; omega) hs, List.filter_cons_of_pos (by simp [q]), List.append_assoc]
   rfl
def enl (S C T : D) (k : Key) : List Nat := (List.range' 0 (len T)).filter (en S C T k)
theorem enl_mem {S C T : D} {k : Key} {s : Nat} (h : s ∈ enl S C T k) : s < len T ∧ en S C T k s = true := by
 have := List.mem_filter.1 h
 have m := List.mem_range'.1 this.1
 exact ⟨by omega, this.2⟩
theorem enl_len {S C T : D} {k : Key} : (enl S C T k).length ≤ len T := by
 have := List.length_filter_le (en S C T k) (List.range' 0 (len T))
 unfold enl
 simpa using this
section
variable [While]
variable {S C T v0 : D}
theorem f17_is (hR : Rk S C T) {k : Key} (hk : KOk S C k) : f17_0 (.int k.1) (.int k.2.1) (.int k.2.2.1) (.int k.2.2.2.1) (.int k.2.2.2.2) v0 S C T = .row [.int 1, idxL (enl S C T k), .bool (enl S C T k).isEmpty] := by
 have hc := hR.c1
 have ht := hR.t1
 have h0 := hk.s0
 have h1 := hk.s1
 rw [e17_0, f13_is hR hk]
 dsimp +instances only [sl_row0, sl_rowS, toInt_int]
 rw [ifF (by omega), ifT (by rfl)]
 have G := gather (F := fun acc i => f17_2 (idxL acc) (.bool acc.isEmpty) T (.int (i : Nat)) (.int k.1) (.int k.2.1) (.int k.2.2.1) (.int k.2.2.2.1) (.int k.2.2.2.2) v0 S C (.int (len C : Nat)) (.bool (decide (len C = 0))) (bk C (kc k) (len C))) (p := en S C T k) (n := len T) (k := len T) (i := 0) (acc := []) (by omega) (Nat.le_refl _) (fun acc j hj ha => by
  show f17_2 (idxL acc) (.bool acc.isEmpty) T (.int (j : Nat)) (.int k.1) (.int k.2.1) (.int k.2.2.1) (.int k.2.2.2.1) (.int k.2.2.2.2) v0 S C (.int (len C : Nat)) (.bool (decide (len C = 0))) (bk C (kc k) (len C)) =
   cond (en S C T k j) (f17_2 (idxL (acc ++ [j])) (.bool (acc ++ [j]).isEmpty) T (.int (j + 1 : Nat)) (.int k.1) (.int k.2.1) (.int k.2.2.1) (.int k.2.2.2.1) (.int k.2.2.2.2) v0 S C (.int (len C : Nat)) (.bool (decide (len C = 0))) (bk C (kc k) (len C)))
    (f17_2 (idxL acc) (.bool acc.isEmpty) T (.int (j + 1 : Nat)) (.int k.1) (.int k.2.1) (.int k.2.2.1) (.int k.2.2.2.1) (.int k.2.2.2.2) v0 S C (.int (len C : Nat)) (.bool (decide (len C = 0))) (bk C (kc k) (len C)))
  rw [e17_2, ifT (by omega), ifF (by omega), len_bk, ifT (by rfl), f16_is hR hk hj]
  dsimp +instances only [sl_row0, sl_rowS, toInt_int, toBool_bool]
  rw [ifT (by rfl), ifF (by omega), ifT (by omega), wrapN (by omega), len_idxL, ifT (by omega), ad_idxL]
  have e : en S C T k j = (D.strEq (cl T j 0) (cl S k.1 0) && al C T k j) := rfl
  rw [e]
  have e2 : (acc ++ [j]).isEmpty = false := by simp
  rw [e2]
  cases al C T k j <;> cases D.strEq (cl T j 0) (cl S k.1 0) <;> rfl)
 have G : f17_2 nilD (.bool true) T (.int 0) (.int k.1) (.int k.2.1) (.int k.2.2.1) (.int k.2.2.2.1) (.int k.2.2.2.2) v0 S C (.int (len C : Nat)) (.bool (decide (len C = 0))) (bk C (kc k) (len C)) = f17_2 (idxL (enl S C T k)) (.bool (enl S C T k).isEmpty) T (.int (len T : Nat)) (.int k.1) (.int k.2.1) (.int k.2.2.1) (.int k.2.2.2.1) (.int k.2.2.2.2) v0 S C (.int (len C : Nat)) (.bool (decide (len C = 0))) (bk C (kc k) (len C)) := G
 rw [G, e17_2, ifF (by omega)]
structure Cf (S C : D) (k : Key) (t x : D) : Prop where
 t : D.strEq (cl S k.1 0) t = true
 l : len x = len C
 v : ∀ j : Nat, j < len C → (cl x j 0).toInt = kc k j
 w : Wd x 1
theorem f36_is (hR : Rk S C T) {k : Key} (hk : KOk S C k) {t x : D} (hx : Cf S C k t x) : f36_0 v0 S C T t x = .row [.int 1, idxL (enl S C T k), .bool (enl S C T k).isEmpty] := by
 have hc := hR.c1
 have ht := hR.t1
 rw [e36_0]
 have G := gather (F := fun acc i => f36_1 (idxL acc) (.bool acc.isEmpty) (.int (i : Nat)) v0 S C T t x) (p := en S C T k) (n := len T) (k := len T) (i := 0) (acc := []) (by omega) (Nat.le_refl _) (fun acc j hj ha => by
  show f36_1 (idxL acc) (.bool acc.isEmpty) (.int (j : Nat)) v0 S C T t x = cond (en S C T k j) (f36_1 (idxL (acc ++ [j])) (.bool (acc ++ [j]).isEmpty) (.int (j + 1 : Nat)) v0 S C T t x) (f36_1 (idxL acc) (.bool acc.isEmpty) (.int (j + 1 : Nat)) v0 S C T t x)
  have e2 : (acc ++ [j]).isEmpty = false := by simp
  have e : D.strEq (cl T j 0) (cl S k.1 0) = D.strEq (cl T j 0) t := by
   rw [strEqD_comm, strEqD_congr hx.t, strEqD_comm]
  have lt := fd_lt (l := C) (key := cl T j 5)
  rw [e36_1, ifT (by omega), ifF (by omega), f32_is (by omega)]
  dsimp +instances only [sl_row0, sl_rowS, toInt_int, toBool_bool]
  rw [ifT (by rfl), wrapN (by omega), len_idxL, ad_idxL, e2]
  unfold en
  rw [e]
  cases D.strEq (cl T j 0) t
  ·rfl
  rw [cond_true, Bool.true_and]
  by_cases c : fd C (cl T j 5) < 0
  ·rw [ifT c, ifT (by omega), decide_eq_true c]
   rfl
  rw [ifF c, decide_eq_false c, Bool.false_or, hx.l, ifT (by omega)]
  have v := hx.v (fd C (cl T j 5)).toNat (by omega)
  rw [show (((fd C (cl T j 5)).toNat : Nat) : Int) = fd C (cl T j 5) by omega] at v
  rw [v]
  by_cases c1 : kc k (fd C (cl T j 5)).toNat < (cl T j 6).toInt
  ·rw [ifT c1, decide_eq_true c1]
   rfl
  rw [ifF c1, decide_eq_false c1]
  by_cases c2 : (cl T j 7).toInt < kc k (fd C (cl T j 5)).toNat
  ·rw [ifT c2, decide_eq_true c2]
   rfl
  rw [ifF c2, decide_eq_false c2, ifT (by omega)]
  rfl)
 have G : f36_1 nilD (.bool true) (.int 0) v0 S C T t x = f36_1 (idxL (enl S C T k)) (.bool (enl S C T k).isEmpty) (.int (len T : Nat)) v0 S C T t x := G
 rw [G, e36_1, ifF (by omega)]
end
end Ch
namespace Ch
open Go Go.AE
theorem mIdx_gen {ks : List Kd} {k : List D} : ∀ (rs l : List D), mIdxF ks k rs l.length = fdG (fun i => keyD ks (((l ++ rs).getD i default).cells) k) rs.length l.length
 | [], l => rfl
 | r :: rs, l => by
  rw [mIdxF, List.length_cons, fdG]
  have e : ((l ++ r :: rs).getD l.length default) = r := by simp
  have i2 := mIdx_gen (ks := ks) (k := k) rs (l ++ [r])
  rw [List.length_append, List.append_assoc] at i2
  have i2 : mIdxF ks k rs (l.length + 1) = fdG (fun i => keyD ks (((l ++ r :: rs).getD i default).cells) k) rs.length (l.length + 1) := i2
  rw [e, i2]
  cases keyD ks r.cells k <;> rfl
theorem mIx_gen {ks : List Kd} {a k : D} : mIx ks a k = fdG (fun i => keyD ks ((a.rows.getD i default).cells) k.cells) (len a) 0 := mIdx_gen (ks := ks) (k := k.cells) a.rows []
abbrev K5 : List Kd := [.int .i64, .int .i64, .int .i64, .int .i64, .int .i64]
def rowK (k : Key) : List D := [.int k.1, .int k.2.1, .int k.2.2.1, .int k.2.2.2.1, .int k.2.2.2.2]
def listK (ks : List Key) : D := .slc ks.isEmpty (ks.map fun k => .row (rowK k))
def seenK (ks : List Key) : D := .slc false (ks.map fun k => .row (rowK k ++ [.bool true]))
theorem len_listK {ks : List Key} : len (listK ks) = ks.length := by unfold listK len; simp [D.rows]
theorem len_seenK {ks : List Key} : len (seenK ks) = ks.length := by unfold seenK len; simp [D.rows]
theorem cl_listK {ks : List Key} {j c : Nat} {k : Key} (h : ks[j]? = some k) : cl (listK ks) j c = (rowK k).getD c default := by
 show (((ks.map fun k => D.row (rowK k))[j]?).getD default).cells.getD c default = _
 rw [List.getElem?_map, h]
 rfl
theorem keyD_K5 {a b : Key} {l : List D} : keyD K5 (rowK a ++ l) (rowK b) = decide (a = b) := by
 obtain ⟨a1, a2, a3, a4, a5⟩ := a
 obtain ⟨b1, b2, b3, b4, b5⟩ := b
 simp only [K5, rowK, List.cons_append, List.nil_append, keyD, toInt_int, Bool.and_true]
 rw [Bool.eq_iff_iff]
 simp
theorem mIx_seenK {ks : List Key} {k : Key} : mIx K5 (seenK ks) (.row (rowK k)) = fdG (fun i => decide (ks[i]? = some k)) ks.length 0 := by
 rw [mIx_gen, len_seenK]
 refine fdG_congr fun j _ hj => ?_
 show keyD K5 ((((ks.map fun k => D.row (rowK k ++ [.bool true]))[j]?).getD default).cells) (rowK k) = _
 have hj' : j < ks.length := by omega
 rw [List.getElem?_map, List.getElem?_eq_getElem hj']
 show keyD K5 (rowK ks[j] ++ [.bool true]) (rowK k) = _
 rw [keyD_K5]
 simp
def addK (ks : List Key) (k : Key) : List Key := if k ∈ ks then ks else ks ++ [k]
theorem addK_len {ks : List Key} {k : Key} : (addK ks k).length ≤ ks.length + 1 := by
 unfold addK
 split
 ·omega
 ·simp
theorem addK_le {ks : List Key} {k : Key} : ks.length ≤ (addK ks k).length := by
 unfold addK
 split
 ·omega
 ·simp
def runK (S C T : D) (k : Key) (ks : List Key) (l : List Nat) : List Key := l.foldl (fun ks s => addK ks (nx S C T k s)) ks
theorem runK_len {S C T : D} {k : Key} : ∀ {l : List Nat} {ks : List Key}, (runK S C T k ks l).length ≤ ks.length + l.length
 | [], ks => by simp [runK]
 | s :: l, ks => by
  have := runK_len (S := S) (C := C) (T := T) (k := k) (l := l) (ks := addK ks (nx S C T k s))
  have := addK_len (ks := ks) (k := nx S C T k s)
  simp only [runK, List.foldl_cons, List.length_cons] at *
  omega
theorem runK_le {S C T : D} {k : Key} : ∀ {l : List Nat} {ks : List Key}, ks.length ≤ (runK S C T k ks l).length
 | [], ks => by simp [runK]
 | s :: l, ks => by
  have := runK_le (S := S) (C := C) (T := T) (k := k) (l := l) (ks := addK ks (nx S C T k s))
  have := addK_le (ks := ks) (k := nx S C T k s)
  simp only [runK, List.foldl_cons] at *
  omega
theorem runK_snoc {S C T : D} {k : Key} {l : List Nat} {ks : List Key} {s : Nat} : runK S C T k ks (l ++ [s]) = addK (runK S C T k ks l) (nx S C T k s) := by
 simp [runK]
def valL (g : Nat → Int) (i : Nat) : D := .slc (decide (i = 0)) ((List.range i).map fun (j : Nat) => .row [.int (g j)])
theorem len_valL {g : Nat → Int} {i : Nat} : len (valL g i) = i := by unfold valL len; simp [D.rows]
theorem cl_valL {g : Nat → Int} {i j : Nat} (h : j < i) : cl (valL g i) j 0 = .int (g j) := by
 show ((((List.range i).map fun (j : Nat) => D.row [.int (g j)])[j]?).getD default).cells.getD 0 default = _
 rw [List.getElem?_map, List.getElem?_range h]
 rfl
theorem ad_valL {g : Nat → Int} {i : Nat} : ad (valL g i) (.row [.int (g i)]) = valL g (i + 1) := by
 show D.slc false (_ ++ _) = D.slc (decide (i + 1 = 0)) _
 rw [List.range_succ, List.map_append, decide_eq_false (by omega)]
 rfl
section
variable [While]
variable {S C T v0 : D}
theorem f8_is {ks : List Key} {k : Key} (hl : ks.length < 1048576) : f8_0 (listK ks) (.bool ks.isEmpty) (seenK ks) (.int k.1) (.int k.2.1) (.int k.2.2.1) (.int k.2.2.2.1) (.int k.2.2.2.2) = .row [.int 1, listK (addK ks k), .bool (addK ks k).isEmpty, seenK (addK ks k)] := by
 rw [e8_0]
 have e : D.row [.int k.1, .int k.2.1, .int k.2.2.1, .int k.2.2.2.1, .int k.2.2.2.2] = .row (rowK k) := rfl
 rw [e, mIx_seenK, len_listK]
 by_cases c : k ∈ ks
 ·obtain ⟨j, hj, hjk⟩ := List.getElem_of_mem c
  have q := fdG_le (p := fun i => decide (ks[i]? = some k)) (k := ks.length) (i := 0) (j := j) (by omega) (by omega) (decide_eq_true (by rw [List.getElem?_eq_getElem hj, hjk]))
  have lt := fdG_lt (p := fun i => decide (ks[i]? = some k)) (k := ks.length) (i := 0)
  have ea : addK ks k = ks := if_pos c
  rw [ifF (by omega), ea]
  have cb : ∀ i : Int, 0 ≤ i → i < ks.length → cl (seenK ks) i 5 = .bool true := fun i h0 h1 => by
   show (((ks.map fun k => D.row (rowK k ++ [.bool true]))[i.toNat]?).getD default).cells.getD 5 default = _
   rw [List.getElem?_map, List.getElem?_eq_getElem (by omega)]
   rfl
  rw [cb _ q.1 (by omega)]
  rfl
 ·have q : fdG (fun i => decide (ks[i]? = some k)) ks.length 0 = -1 := fdG_all fun j _ hj => decide_eq_false fun h => c (List.mem_of_getElem? h)
  have ea : addK ks k = ks ++ [k] := if_neg c
  rw [ifT (by omega), ifT (by omega), ea]
  have e1 : ad (listK ks) (.row (rowK k)) = listK (ks ++ [k]) := by
   unfold listK ad
   simp [D.rows]
  have e2 : ad (seenK ks) (.row [.int k.1, .int k.2.1, .int k.2.2.1, .int k.2.2.2.1, .int k.2.2.2.2, .bool true]) = seenK (ks ++ [k]) := by
   unfold seenK ad
   simp [D.rows, rowK]
  rw [e1, e2]
  simp
theorem f20_is (hR : Rk S C T) {k : Key} (hk : KOk S C k) {b : Bool} {s : Nat} (hs : s < len T) (he : en S C T k s = true) : f20_0 (.bool true) (bk C (kc k) (len C)) (.bool b) (cl T s 0) (cl T s 1) (cl T s 2) (cl T s 3) (cl T s 4) (cl T s 5) (cl T s 6) (cl T s 7) (cl T s 8) = .row [.int 1, .int 0, bk C (nv C T k s) (len C)] := by
 have hc := hR.c1
 obtain ⟨⟨n2, h2⟩, ⟨n6, h6⟩, ⟨n7, h7⟩, ⟨n8, h8⟩, _⟩ := hR.tI s hs
 have ct := hR.ctr s hs
 have A := f16_is hR hk (b := b) hs
 have ea : al C T k s = true := by
  unfold en at he
  simp only [Bool.and_eq_true] at he
  exact he.2
 rw [ea] at A
 have kn := hk.v0
 have hk2 := nx_ok hR hk hs he
 rw [h2, h6, h7, h8] at A
 rw [h2, h6, h7, h8, e20_0, A]
 dsimp +instances only [sl_row0, sl_rowS, toInt_int, toBool_bool]
 rw [ifT (by rfl), ifT (by rfl), cond_true]
 rcases ct with ⟨z, q⟩ | ⟨z, q1, _⟩
 ·rw [z, cond_true]
  have : bk C (kc k) (len C) = bk C (nv C T k s) (len C) := bk_congr fun j _ => by
   unfold nv
   rw [if_neg (by omega)]
  rw [this]
 ·have lt := fd_lt (l := C) (key := cl T s 5)
  rw [z, cond_false, f9_is (by rw [len_bk]; omega), fd_bk]
  dsimp +instances only [sl_row0, sl_rowS, toInt_int, toBool_bool]
  rw [ifT (by rfl), ifF (by omega), len_bk, ifT (by omega)]
  have e : fd C (cl T s 5) = ((fd C (cl T s 5)).toNat : Nat) := by omega
  have cq := cl_bk (C := C) (g := kc k) (i := len C) (j := (fd C (cl T s 5)).toNat) (c := 2) (by omega)
  rw [← e] at cq
  rw [cq]
  have u := upd_bk (C := C) (g := kc k) (n := len C) (i := (fd C (cl T s 5)).toNat) (x := IntKind.wrap .i64 (kc k (fd C (cl T s 5)).toNat + n8)) (by omega)
  rw [← e] at u
  refine (congrArg (fun x => D.row [.int 1, .int 0, x]) u).trans ?_
  show D.row [.int 1, .int 0, _] = D.row [.int 1, .int 0, _]
  have : (bk C (fun j => if j = (fd C (cl T s 5)).toNat then IntKind.wrap .i64 (kc k (fd C (cl T s 5)).toNat + n8) else kc k j) (len C)) = bk C (nv C T k s) (len C) := bk_congr fun j hj => by
   unfold nv
   by_cases c : j = (fd C (cl T s 5)).toNat
   ·have v := hk2.v0 j hj
    rw [kc_nx (by omega)] at v
    have l := hR.lim j hj
    unfold nv at v
    rw [if_pos (by omega), h8, toInt_int] at v
    rw [if_pos c, if_pos (by omega), h8, toInt_int, ← c, wrap_i64 (by omega) (by omega)]
   ·rw [if_neg c, if_neg (by omega)]
  rw [this]
theorem f21_is {g : Nat → Int} {n : Nat} (hn : n ≤ 4) : f21_0 nilD (.bool true) (ct emptyD (bk C g n)) (.bool false) = .row [.int 1, valL g n, .bool (decide (n = 0))] := by
 have ec : ∀ j : Nat, j < n → cl (ct emptyD (bk C g n)) j 2 = .int (g j) := fun j hj => cl_bk (C := C) (g := g) (i := n) (j := j) (c := 2) hj
 have el : len (ct emptyD (bk C g n)) = n := len_bk
 rw [e21_0]
 have L := look (F := fun i => f21_1 (ct emptyD (bk C g n)) (.bool false) (.int (i : Nat)) (valL g i) (.bool (decide (i = 0)))) (n := n) (bad := fun _ => false) (B := fun _ => .row []) (fun i hi => by
  show f21_1 (ct emptyD (bk C g n)) (.bool false) (.int (i : Nat)) (valL g i) (.bool (decide (i = 0))) = f21_1 (ct emptyD (bk C g n)) (.bool false) (.int (i + 1 : Nat)) (valL g (i + 1)) (.bool (decide (i + 1 = 0)))
  rw [e21_1, el, ifT (by omega), ifF (by omega), len_valL, ifT (by omega), ec i hi, ad_valL, wrapN (by omega), decide_eq_false (show ¬ i + 1 = 0 by omega)])
 refine (show f21_1 (ct emptyD (bk C g n)) (.bool false) (.int 0) nilD (.bool true) = cond _ (f21_1 (ct emptyD (bk C g n)) (.bool false) (.int (n : Nat)) (valL g n) (.bool (decide (n = 0)))) _ from L).trans ?_
 rw [fdG_all (fun _ _ _ => rfl), ifT (by omega), e21_1, el, ifF (by omega)]
end
end Ch
namespace Ch
open Go Go.AE
section
variable [While]
variable {S C T v0 : D}
theorem f22_is (hR : Rk S C T) {k : Key} (hk : KOk S C k) {s : Nat} (hs : s < len T) (he : en S C T k s = true) : f22_0 (.int k.1) (.int k.2.1) (.int k.2.2.1) (.int k.2.2.2.1) (.int k.2.2.2.2) v0 S C T (.int (s : Nat)) = .row (.int 1 :: rowK (nx S C T k s)) := by
 have hc := hR.c1
 have hs1 := hR.s1
 have nk := (nx_ok hR hk hs he).v1
 have F20 := f20_is hR hk (b := decide (len C = 0)) hs he
 have F21 := f21_is (C := C) (g := nv C T k s) (n := len C) hc
 have z : ∀ j : Nat, len C ≤ j → j < 4 → nv C T k s j = 0 := fun j h1 h2 => by rw [← kc_nx h2]; exact nk j h1
 rw [e22_0 (h0 := f13_is hR hk) (h1 := F20) (h2 := F21), f19_is (v0 := S) (by omega)]
 dsimp +instances only [sl_row0, sl_rowS, toInt_int, toBool_bool]
 rw [Bool.false_and, F21]
 dsimp +instances only [sl_row0, sl_rowS, toInt_int, toBool_bool]
 rw [ifF (by omega), ifT (by rfl), ifF (by omega), ifT (by omega), len_bk, len_bk, ifT (by rfl), ifT (by rfl), ifT (by rfl), len_valL]
 by_cases n0 : (len C : Int) = 0
 ·rw [cT (decide_eq_true (by omega))]
  show _ = D.row [.int 1, .int (fd S (cl T s 1)), .int (nv C T k s 0), .int (nv C T k s 1), .int (nv C T k s 2), .int (nv C T k s 3)]
  rw [z 0 (by omega) (by omega), z 1 (by omega) (by omega), z 2 (by omega) (by omega), z 3 (by omega) (by omega)]
 rw [cF (decide_eq_false (by omega)), ifT (by rfl), ifT (by omega), ifT (by rfl)]
 show _ = D.row [.int 1, .int (fd S (cl T s 1)), .int (nv C T k s 0), .int (nv C T k s 1), .int (nv C T k s 2), .int (nv C T k s 3)]
 have c0 := cl_valL (g := nv C T k s) (i := len C) (j := 0)
 have c1 := cl_valL (g := nv C T k s) (i := len C) (j := 1)
 have c2 := cl_valL (g := nv C T k s) (i := len C) (j := 2)
 have c3 := cl_valL (g := nv C T k s) (i := len C) (j := 3)
 by_cases n4 : (len C : Int) < 4
 rotate_left
 ·rw [ifF n4, show cl (valL (nv C T k s) (len C)) 0 0 = _ from c0 (by omega), show cl (valL (nv C T k s) (len C)) 1 0 = _ from c1 (by omega), show cl (valL (nv C T k s) (len C)) 2 0 = _ from c2 (by omega), show cl (valL (nv C T k s) (len C)) 3 0 = _ from c3 (by omega)]
 rw [ifT n4, ifF n0]
 by_cases n1 : (len C : Int) = 1
 ·rw [ifT n1, show cl (valL (nv C T k s) (len C)) 0 0 = _ from c0 (by omega), z 1 (by omega) (by omega), z 2 (by omega) (by omega), z 3 (by omega) (by omega)]
 rw [ifF n1]
 by_cases n2 : (len C : Int) = 2
 ·rw [ifT n2, show cl (valL (nv C T k s) (len C)) 0 0 = _ from c0 (by omega), show cl (valL (nv C T k s) (len C)) 1 0 = _ from c1 (by omega), z 2 (by omega) (by omega), z 3 (by omega) (by omega)]
 rw [ifF n2]
 have n3 : (len C : Int) = 3 := by omega
 rw [ifT n3, show cl (valL (nv C T k s) (len C)) 0 0 = _ from c0 (by omega), show cl (valL (nv C T k s) (len C)) 1 0 = _ from c1 (by omega), show cl (valL (nv C T k s) (len C)) 2 0 = _ from c2 (by omega), z 3 (by omega) (by omega)]
theorem f23_is (hR : Rk S C T) {k : Key} (hk : KOk S C k) {ks : List Key} (hl : ks.length < 100000) : f23_0 (.int k.1) (.int k.2.1) (.int k.2.2.1) (.int k.2.2.2.1) (.int k.2.2.2.2) (listK ks) (.bool ks.isEmpty) (seenK ks) v0 S C T =
  .row [.int 1, listK (runK S C T k ks (enl S C T k)), .bool (runK S C T k ks (enl S C T k)).isEmpty, seenK (runK S C T k ks (enl S C T k))] := by
 have ht := hR.t1
 have hle := enl_len (S := S) (C := C) (T := T) (k := k)
 rw [e23_0, f17_is hR hk]
 dsimp +instances only [sl_row0, sl_rowS, toInt_int, toBool_bool]
 rw [ifT (by rfl), len_idxL]
 have L := look (F := fun i => f23_1 (idxL (enl S C T k)) (.bool (enl S C T k).isEmpty) (.int ((enl S C T k).length : Nat)) (.int (i : Nat)) (listK (runK S C T k ks ((enl S C T k).take i))) (.bool (runK S C T k ks ((enl S C T k).take i)).isEmpty) (seenK (runK S C T k ks ((enl S C T k).take i))) v0 S C T (.int k.1) (.int k.2.1) (.int k.2.2.1) (.int k.2.2.2.1) (.int k.2.2.2.2)) (n := (enl S C T k).length) (bad := fun _ => false) (B := fun _ => .row []) (fun i hi => by
  show f23_1 (idxL (enl S C T k)) (.bool (enl S C T k).isEmpty) (.int ((enl S C T k).length : Nat)) (.int (i : Nat)) (listK (runK S C T k ks ((enl S C T k).take i))) (.bool (runK S C T k ks ((enl S C T k).take i)).isEmpty) (seenK (runK S C T k ks ((enl S C T k).take i))) v0 S C T (.int k.1) (.int k.2.1) (.int k.2.2.1) (.int k.2.2.2.1) (.int k.2.2.2.2) =
   f23_1 (idxL (enl S C T k)) (.bool (enl S C T k).isEmpty) (.int ((enl S C T k).length : Nat)) (.int (i + 1 : Nat)) (listK (runK S C T k ks ((enl S C T k).take (i + 1)))) (.bool (runK S C T k ks ((enl S C T k).take (i + 1))).isEmpty) (seenK (runK S C T k ks ((enl S C T k).take (i + 1)))) v0 S C T (.int k.1) (.int k.2.1) (.int k.2.2.1) (.int k.2.2.2.1) (.int k.2.2.2.2)
  have hg : (enl S C T k)[i]? = some ((enl S C T k)[i]) := List.getElem?_eq_getElem hi
  have hm := enl_mem (List.getElem_mem hi)
  have hr := runK_len (S := S) (C := C) (T := T) (k := k) (l := (enl S C T k).take i) (ks := ks)
  have htk : ((enl S C T k).take i).length ≤ i := by simp; omega
  rw [List.take_add_one, hg, Option.toList_some, runK_snoc, e23_1, ifT (by omega), ifF (by omega), len_idxL, ifT (by omega), cl_idxL hg, f22_is hR hk hm.1 hm.2]
  have e : D.row (.int 1 :: rowK (nx S C T k (enl S C T k)[i])) = .row [.int 1, .int (nx S C T k (enl S C T k)[i]).1, .int (nx S C T k (enl S C T k)[i]).2.1, .int (nx S C T k (enl S C T k)[i]).2.2.1, .int (nx S C T k (enl S C T k)[i]).2.2.2.1, .int (nx S C T k (enl S C T k)[i]).2.2.2.2] := rfl
  rw [e]
  dsimp +instances only [sl_row0, sl_rowS, toInt_int, toBool_bool]
  rw [f8_is (by omega)]
  dsimp +instances only [sl_row0, sl_rowS, toInt_int, toBool_bool]
  rw [ifT (by rfl), ifT (by rfl), wrapN (by omega)])
 refine (show f23_1 (idxL (enl S C T k)) (.bool (enl S C T k).isEmpty) (.int ((enl S C T k).length : Nat)) (.int 0) (listK ks) (.bool ks.isEmpty) (seenK ks) v0 S C T (.int k.1) (.int k.2.1) (.int k.2.2.1) (.int k.2.2.2.1) (.int k.2.2.2.2) = cond _ (f23_1 (idxL (enl S C T k)) (.bool (enl S C T k).isEmpty) (.int ((enl S C T k).length : Nat)) (.int ((enl S C T k).length : Nat)) (listK (runK S C T k ks ((enl S C T k).take (enl S C T k).length))) (.bool (runK S C T k ks ((enl S C T k).take (enl S C T k).length)).isEmpty) (seenK (runK S C T k ks ((enl S C T k).take (enl S C T k).length))) v0 S C T (.int k.1) (.int k.2.1) (.int k.2.2.1) (.int k.2.2.2.1) (.int k.2.2.2.2)) _ from L).trans ?_
 rw [fdG_all (fun _ _ _ => rfl), ifT (by omega), List.take_length, e23_1, ifF (by omega)]
def AllOk (S C : D) (ks : List Key) : Prop := ∀ k ∈ ks, KOk S C k
theorem runK_ok (hR : Rk S C T) {k : Key} (hk : KOk S C k) : ∀ {l : List Nat} {ks : List Key}, (∀ s ∈ l, s < len T ∧ en S C T k s = true) → AllOk S C ks → AllOk S C (runK S C T k ks l)
 | [], ks, _, h => by simpa [runK] using h
 | s :: l, ks, hl, h => by
  have hm := hl s (List.mem_cons_self ..)
  have := runK_ok hR hk (l := l) (ks := addK ks (nx S C T k s)) (fun s hs => hl s (List.mem_cons_of_mem _ hs)) (by
   unfold addK
   split
   ·exact h
   ·intro x hx
    rcases List.mem_append.1 hx with q | q
    ·exact h x q
    ·rw [List.mem_singleton.1 q]
     exact nx_ok hR hk hm.1 hm.2)
  simpa [runK] using this
def expK (S C T : D) (ks : List Key) (k : Key) : List Key := runK S C T k ks (enl S C T k)
theorem expK_ok (hR : Rk S C T) {k : Key} (hk : KOk S C k) {ks : List Key} (h : AllOk S C ks) : AllOk S C (expK S C T ks k) := runK_ok hR hk (fun s hs => enl_mem hs) h
def srch (S C T : D) : Nat → List Key → Nat → List Key
 | 0, ks, _ => ks
 | f + 1, ks, i => match ks[i]? with
  | some k => srch S C T f (expK S C T ks k) (i + 1)
  | none => ks
theorem srch_le : ∀ {f : Nat} {ks : List Key} {i : Nat}, ks.length ≤ (srch S C T f ks i).length
 | 0, ks, i => Nat.le_refl _
 | f + 1, ks, i => by
  rw [srch]
  split
  ·rename_i k _
   exact Nat.le_trans runK_le (srch_le (f := f))
  ·exact Nat.le_refl _
theorem srch_ok (hR : Rk S C T) : ∀ {f : Nat} {ks : List Key} {i : Nat}, AllOk S C ks → AllOk S C (srch S C T f ks i)
 | 0, ks, i, h => h
 | f + 1, ks, i, h => by
  rw [srch]
  split
  ·rename_i k hk
   exact srch_ok hR (expK_ok hR (h k (List.mem_of_getElem? hk)) h)
  ·exact h
theorem f24_loop (hR : Rk S C T) {w : D} : ∀ {f i : Nat} {ks : List Key}, i + f = 2000 → ks.length ≤ 1 + 20 * i → ks ≠ [] → AllOk S C ks → f24_2 (.int 2000) (.int (i : Nat)) w v0 S C T (listK ks) (.bool ks.isEmpty) (seenK ks) = .row [.int 1, listK (srch S C T f ks i), .bool (srch S C T f ks i).isEmpty, .bool (decide (2000 < ((srch S C T f ks i).length : Int)))]
 | 0, i, ks => fun h hl hn ho => by
  rw [e24_2, len_listK, srch]
  by_cases c : (i : Int) < (ks.length : Nat)
  ·rw [ifT c, ifF (by omega)]
  ·rw [ifF c]
 | f + 1, i, ks => fun h hl hn ho => by
  rw [e24_2, len_listK]
  by_cases c : (i : Int) < (ks.length : Nat)
  ·have c' : i < ks.length := by omega
   have hg : ks[i]? = some ks[i] := List.getElem?_eq_getElem c'
   have hk := ho _ (List.getElem_mem c')
   have e := enl_len (S := S) (C := C) (T := T) (k := ks[i])
   have r := runK_len (S := S) (C := C) (T := T) (k := ks[i]) (l := enl S C T ks[i]) (ks := ks)
   have r2 := runK_le (S := S) (C := C) (T := T) (k := ks[i]) (l := enl S C T ks[i]) (ks := ks)
   have ht := hR.t1
   have ne : expK S C T ks ks[i] ≠ [] := fun q => by
    have : (expK S C T ks ks[i]).length = 0 := by rw [q]; rfl
    unfold expK at this
    have : ks.length = 0 := by omega
    exact hn (List.length_eq_zero_iff.1 this)
   have ih := f24_loop hR (w := w) (f := f) (i := i + 1) (ks := expK S C T ks ks[i]) (by omega) (by unfold expK; omega) ne (expK_ok hR hk ho)
   rw [ifT c, ifT (by omega), ifF (by omega), cl_listK hg, cl_listK hg, cl_listK hg, cl_listK hg, cl_listK hg]
   show cond (decide ((sl (f23_0 (.int ks[i].1) (.int ks[i].2.1) (.int ks[i].2.2.1) (.int ks[i].2.2.2.1) (.int ks[i].2.2.2.2) (listK ks) (.bool ks.isEmpty) (seenK ks) v0 S C T) 0).toInt = 1)) (f24_2 (.int 2000) (.int (IntKind.wrap .i64 (i + 1))) w v0 S C T (sl (f23_0 (.int ks[i].1) (.int ks[i].2.1) (.int ks[i].2.2.1) (.int ks[i].2.2.2.1) (.int ks[i].2.2.2.2) (listK ks) (.bool ks.isEmpty) (seenK ks) v0 S C T) 1) (sl (f23_0 (.int ks[i].1) (.int ks[i].2.1) (.int ks[i].2.2.1) (.int ks[i].2.2.2.1) (.int ks[i].2.2.2.2) (listK ks) (.bool ks.isEmpty) (seenK ks) v0 S C T) 2) (sl (f23_0 (.int ks[i].1) (.int ks[i].2.1) (.int ks[i].2.2.1) (.int ks[i].2.2.2.1) (.int ks[i].2.2.2.2) (listK ks) (.bool ks.isEmpty) (seenK ks) v0 S C T) 3)) (.row []) = _
   rw [f23_is hR hk (by omega)]
   dsimp +instances only [sl_row0, sl_rowS, toInt_int, toBool_bool]
   rw [ifT (by rfl), wrapN (by omega)]
   rw [srch, hg]
   exact ih
  ·rw [ifF c, srch, List.getElem?_eq_none (by omega)]
def key0 : Key := (0, 0, 0, 0, 0)
theorem key0_ok (hR : Rk S C T) : KOk S C key0 := by
 have h := hR.s0
 have z : ∀ j, kc key0 j = 0 := fun j => by
  match j with
  | 0 => rfl
  | 1 => rfl
  | 2 => rfl
  | 3 => rfl
  | j + 4 => rfl
 refine ⟨Int.le_refl _, by show (0 : Int) < _; omega, fun j hj => ?_, fun j _ => z j⟩
 rw [z]
 have := hR.lim j hj
 omega
def allK (S C T : D) : List Key := srch S C T 2000 [key0] 0
theorem f24_is (hR : Rk S C T) : f24_0 (ad emptyD (.row [.int 0, .int 0, .int 0, .int 0, .int 0])) (.bool false) (.int 2000) v0 S C T = .row [.int 1, listK (allK S C T), .bool (allK S C T).isEmpty, .bool (decide (2000 < ((allK S C T).length : Int)))] := by
 have A := f8_is (ks := []) (k := key0) (by show (0 : Nat) < _; omega)
 have A : f8_0 nilD (.bool true) emptyD (.int 0) (.int 0) (.int 0) (.int 0) (.int 0) = .row [.int 1, listK [key0], .bool false, seenK [key0]] := A
 have l1 : len (ad emptyD (.row [.int 0, .int 0, .int 0, .int 0, .int 0])) = 1 := rfl
 rw [e24_0, e24_1, l1, ifT (by omega), ifF (by omega)]
 show cond (decide ((sl (f8_0 nilD (.bool true) emptyD (.int 0) (.int 0) (.int 0) (.int 0) (.int 0)) 0).toInt = 1)) (f24_1 (.int 2000) (ad emptyD (.row [.int 0, .int 0, .int 0, .int 0, .int 0])) (.bool false) (.int (IntKind.wrap .i64 (0 + 1))) v0 S C T (sl (f8_0 nilD (.bool true) emptyD (.int 0) (.int 0) (.int 0) (.int 0) (.int 0)) 1) (sl (f8_0 nilD (.bool true) emptyD (.int 0) (.int 0) (.int 0) (.int 0) (.int 0)) 2) (sl (f8_0 nilD (.bool true) emptyD (.int 0) (.int 0) (.int 0) (.int 0) (.int 0)) 3)) (.row []) = _
 rw [A]
 dsimp +instances only [sl_row0, sl_rowS, toInt_int, toBool_bool]
 rw [ifT (by rfl), wrap_i64 (by omega) (by omega), e24_1, l1, ifF (by omega)]
 exact f24_loop hR (f := 2000) (i := 0) (ks := [key0]) (by omega) (by show 1 ≤ _; omega) (by simp) (fun k hk => by rw [List.mem_singleton.1 hk]; exact key0_ok hR)
end
end Ch
namespace Ch
open Go Go.AE
structure RL (S C : D) (ks : List Key) (d : D) : Prop where
 l : len d = ks.length
 c : ∀ (i : Nat) (k : Key), ks[i]? = some k → Cf S C k (cl d i 0) (cl d i 1)
theorem RL.ad {S C : D} {ks : List Key} {d t x : D} {k : Key} (h : RL S C ks d) (hx : Cf S C k t x) : RL S C (ks ++ [k]) (ad d (.row [t, x])) := by
 refine ⟨by rw [len_ad, h.l]; simp, fun i k' hi => ?_⟩
 rw [cl_ad (by omega), cl_ad (by omega), h.l]
 by_cases c : i < ks.length
 ·rw [List.getElem?_append_left c] at hi
  rw [if_neg (by omega), if_neg (by omega)]
  exact h.c i k' hi
 ·have hlt : i < (ks ++ [k]).length := by
   rcases Nat.lt_or_ge i (ks ++ [k]).length with q | q
   ·exact q
   ·rw [List.getElem?_eq_none q] at hi
    cases hi
  simp at hlt
  have : i = ks.length := by omega
  subst this
  simp at hi
  subst hi
  rw [if_pos rfl, if_pos rfl]
  exact hx
theorem Cf.key {S C T : D} (hR : Rk S C T) {k k' : Key} {t x t' x' : D} (hk : KOk S C k) (hk' : KOk S C k') (h : Cf S C k t x) (h' : Cf S C k' t' x') : (D.strEq t t' = true ∧ ∀ j : Nat, j < len C → (cl x j 0).toInt = (cl x' j 0).toInt) ↔ k = k' := by
 have hc := hR.c1
 constructor
 ·rintro ⟨e, v⟩
  have s0 := hk.s0
  have s1 := hk.s1
  have s0' := hk'.s0
  have s1' := hk'.s1
  refine key_ext ?_ fun j hj => ?_
  ·have a := strEqD_trans h.t e
   have b : D.strEq (cl S k'.1 0) t' = true := h'.t
   rw [strEqD_comm] at b
   have c := strEqD_trans a b
   have i1 := hR.sid k.1.toNat (by omega)
   have i2 := hR.sid k'.1.toNat (by omega)
   rw [show ((k.1.toNat : Nat) : Int) = k.1 by omega] at i1
   rw [show ((k'.1.toNat : Nat) : Int) = k'.1 by omega] at i2
   have : fd S (cl S k.1 0) = fd S (cl S k'.1 0) := by
    unfold fd
    refine fdG_congr fun j _ _ => ?_
    show D.strEq (cl S j 0) (cl S k.1 0) = D.strEq (cl S j 0) (cl S k'.1 0)
    rw [strEqD_comm, strEqD_congr c, strEqD_comm]
   omega
  ·by_cases c : j < len C
   ·have := v j c
    rw [h.v j c, h'.v j c] at this
    exact this
   ·rw [hk.v1 j (by omega), hk'.v1 j (by omega)]
 ·rintro rfl
  refine ⟨?_, fun j hj => by rw [h.v j hj, h'.v j hj]⟩
  have a := h.t
  rw [strEqD_comm] at a
  exact strEqD_trans a h'.t
section
variable [While]
variable {S C T v0 : D}
theorem f34_is (hR : Rk S C T) {k k' : Key} {t x t' x' : D} {b : Bool} (hk : KOk S C k) (hk' : KOk S C k') (h : Cf S C k t x) (h' : Cf S C k' t' x') : f34_0 t x t' x' (.bool b) = .row [.int 1, .bool (decide (k = k'))] := by
 have hc := hR.c1
 have key := Cf.key hR hk hk' h h'
 rw [e34_0]
 cases e : D.strEq t t'
 ·rw [cond_false, decide_eq_false (fun q => by rw [← key, e] at q; cases q.1)]
 rw [cond_true, h.l, h'.l, ifT (by rfl)]
 have L := look (F := fun i => f34_1 (.int (i : Nat)) x' t x t' (.bool b)) (n := len C) (bad := fun i => !decide ((cl x i 0).toInt = (cl x' i 0).toInt)) (B := fun _ => .row [.int 1, .bool false]) (fun i hi => by
  show f34_1 (.int (i : Nat)) x' t x t' (.bool b) = cond _ (.row [.int 1, .bool false]) (f34_1 (.int (i + 1 : Nat)) x' t x t' (.bool b))
  rw [e34_1, h.l, h'.l, ifT (by omega), ifF (by omega), ifT (by omega), wrapN (by omega)]
  by_cases q : (cl x i 0).toInt = (cl x' i 0).toInt
  ·rw [ifT q, decide_eq_true q]
   rfl
  ·rw [ifF q, decide_eq_false q]
   rfl)
 refine (show f34_1 (.int 0) x' t x t' (.bool b) = _ from L).trans ?_
 show cond _ (f34_1 (.int (len C : Nat)) x' t x t' (.bool b)) _ = _
 by_cases q : fdG (fun i => !decide ((cl x i 0).toInt = (cl x' i 0).toInt)) (len C) 0 < 0
 ·rw [ifT q, e34_1, h.l, ifF (by omega), decide_eq_true (key.1 ⟨e, fun j hj => by
   have n := fdG_no (p := fun i => !decide ((cl x i 0).toInt = (cl x' i 0).toInt)) (k := len C) (i := 0) (j := j) (by omega) (.inr ⟨q, by omega⟩)
   simpa using n⟩)]
 ·rw [ifF q, decide_eq_false fun c => by
   have w := (key.2 c).2
   have is := fdG_is (p := fun i => !decide ((cl x i 0).toInt = (cl x' i 0).toInt)) (k := len C) (i := 0) (by omega)
   have lt := fdG_lt (p := fun i => !decide ((cl x i 0).toInt = (cl x' i 0).toInt)) (k := len C) (i := 0)
   have w := w (fdG (fun i => !decide ((cl x i 0).toInt = (cl x' i 0).toInt)) (len C) 0).toNat (by omega)
   rw [decide_eq_true w] at is
   cases is]
theorem f35_is (hR : Rk S C T) {ks : List Key} {k : Key} {d t x : D} {b b' : Bool} (hl : ks.length < 100000) (ho : AllOk S C ks) (hk : KOk S C k) (h : RL S C ks d) (hx : Cf S C k t x) : f35_0 d (.bool b) t x (.bool b') = .row [.int 1, .bool (decide (k ∈ ks))] := by
 rw [e35_0]
 have L := look (F := fun i => f35_1 d (.bool b) (.int (i : Nat)) x t (.bool b')) (n := ks.length) (bad := fun i => decide (ks[i]? = some k)) (B := fun _ => .row [.int 1, .bool true]) (fun i hi => by
  show f35_1 d (.bool b) (.int (i : Nat)) x t (.bool b') = cond _ (.row [.int 1, .bool true]) (f35_1 d (.bool b) (.int (i + 1 : Nat)) x t (.bool b'))
  have hg : ks[i]? = some ks[i] := List.getElem?_eq_getElem hi
  rw [e35_1, h.l, ifT (by omega), ifF (by omega), f34_is hR (ho _ (List.getElem_mem hi)) hk (h.c i _ hg) hx]
  dsimp +instances only [sl_row0, sl_rowS, toInt_int, toBool_bool]
  rw [ifT (by rfl), wrapN (by omega)]
  congr 1
  rw [hg]
  simp)
 refine (show f35_1 d (.bool b) (.int 0) x t (.bool b') = _ from L).trans ?_
 show cond _ (f35_1 d (.bool b) (.int (ks.length : Nat)) x t (.bool b')) _ = _
 by_cases q : fdG (fun i => decide (ks[i]? = some k)) ks.length 0 < 0
 ·rw [ifT q, e35_1, h.l, ifF (by omega), decide_eq_false fun c => by
   obtain ⟨j, hj, e⟩ := List.getElem_of_mem c
   have n := fdG_no (p := fun i => decide (ks[i]? = some k)) (k := ks.length) (i := 0) (j := j) (by omega) (.inr ⟨q, by omega⟩)
   rw [List.getElem?_eq_getElem hj, e] at n
   simp at n]
 ·rw [ifF q, decide_eq_true (List.mem_of_getElem? (dT (fdG_is (p := fun i => decide (ks[i]? = some k)) (k := ks.length) (i := 0) (by omega))))]
theorem do_cf (hR : Rk S C T) {k : Key} (hk : KOk S C k) {s : Nat} (hs : s < len T) (he : en S C T k s = true) {t x : D} (hx : Cf S C k t x) :
  (fd C (cl T s 5) < 0 → Cf S C (nx S C T k s) (cl T s 1) (ct nilD x)) ∧
  (¬ fd C (cl T s 5) < 0 → Cf S C (nx S C T k s) (cl T s 1) (upd (ct nilD x) (fd C (cl T s 5)) 0 (.int (IntKind.wrap .i64 ((cl (ct nilD x) (fd C (cl T s 5)) 0).toInt + (cl T s 8).toInt))))) := by
 have hc := hR.c1
 have ok := nx_ok hR hk hs he
 have tt : D.strEq (cl S (nx S C T k s).1 0) (cl T s 1) = true := fd_is (hR.to s hs)
 have ec : ∀ j : Nat, cl (ct nilD x) j 0 = cl x j 0 := fun j => rfl
 have el : len (ct nilD x) = len x := rfl
 have ew : Wd (ct nilD x) 1 := wd_ct wd_nilD hx.w
 refine ⟨fun h => ⟨tt, el.trans hx.l, fun j hj => ?_, ew⟩, fun h => ⟨tt, by rw [len_upd, el, hx.l], fun j hj => ?_, wd_upd ew⟩⟩
 ·rw [ec, hx.v j hj, kc_nx (by omega)]
  unfold nv
  rw [if_neg (by omega)]
 ·have lt := fd_lt (l := C) (key := cl T s 5)
  have e : fd C (cl T s 5) = ((fd C (cl T s 5)).toNat : Nat) := by omega
  have v := ok.v0 j hj
  rw [kc_nx (by omega)] at v ⊢
  have l := hR.lim j hj
  have hxj := hx.v j hj
  have hl := hx.l
  rw [cl_upd ew (by omega) (by omega) (by omega) (by omega)]
  by_cases c : fd C (cl T s 5) = j
  ·unfold nv at v ⊢
   rw [if_pos c] at v ⊢
   rw [if_pos ⟨c.symm, rfl⟩, c, ec, hxj, wrap_i64 (by omega) (by omega)]
   rfl
  ·unfold nv
   rw [if_neg c, if_neg (fun q => c q.1.symm), ec, hxj]
end
end Ch
namespace Ch
open Go Go.AE
section
variable [While]
variable {S C T v0 : D}
theorem f37_in (hR : Rk S C T) {k : Key} (hk : KOk S C k) {i : Nat} {L : List Nat} {fl : Bool} (hL : ∀ s ∈ L, s < len T ∧ en S C T k s = true) (hLl : L.length ≤ 20) : ∀ (rem pre : List Nat) (ks : List Key) (d : D) (b : Bool), L = pre ++ rem → AllOk S C ks → RL S C ks d → ks.length ≤ 2000 → ks[i]? = some k →
  (2000 < (runK S C T k ks rem).length ∧ f37_2 d (.bool b) (.int (i : Nat)) (idxL L) (.bool fl) (.int (pre.length : Nat)) v0 S C T nilD = .row [.int 1, nilD, .bool true, .bool false]) ∨
  ((runK S C T k ks rem).length ≤ 2000 ∧ ∃ d' b', RL S C (runK S C T k ks rem) d' ∧ f37_2 d (.bool b) (.int (i : Nat)) (idxL L) (.bool fl) (.int (pre.length : Nat)) v0 S C T nilD = f37_1 d' (.bool b') (.int (i + 1 : Nat)) v0 S C T nilD)
 | [], pre, ks, d, b => fun e ho hr hl hi => by
  right
  have hil : i < ks.length := by
   rcases Nat.lt_or_ge i ks.length with q | q
   ·exact q
   ·rw [List.getElem?_eq_none q] at hi; cases hi
  refine ⟨hl, d, b, hr, ?_⟩
  rw [e37_2, len_idxL, e]
  simp only [List.append_nil]
  rw [ifF (by omega), wrapN (by omega)]
 | s :: rem, pre, ks, d, b => fun e ho hr hl hi => by
  have hc := hR.c1
  have hil : i < ks.length := by
   rcases Nat.lt_or_ge i ks.length with q | q
   ·exact q
   ·rw [List.getElem?_eq_none q] at hi; cases hi
  have hpl : pre.length < L.length := by rw [e]; simp
  have hg : L[pre.length]? = some s := by rw [e]; simp
  have hm := hL s (by rw [e]; simp)
  have hx := hr.c i k hi
  obtain ⟨D1, D2⟩ := do_cf hR hk hm.1 hm.2 hx
  have ok := nx_ok hR hk hm.1 hm.2
  have hxl := hx.l
  have hrl := hr.l
  have e' : L = (pre ++ [s]) ++ rem := by rw [e]; simp
  have epl : (pre ++ [s]).length = pre.length + 1 := by simp
  have eo : AllOk S C (ks ++ [nx S C T k s]) := fun y hy => by
   rcases List.mem_append.1 hy with q | q
   ·exact ho y q
   ·rw [List.mem_singleton.1 q]; exact ok
  have er : runK S C T k ks (s :: rem) = runK S C T k (addK ks (nx S C T k s)) rem := rfl
  rw [er]
  have big : 2000 < (addK ks (nx S C T k s)).length → 2000 < (runK S C T k (addK ks (nx S C T k s)) rem).length := fun h => Nat.lt_of_lt_of_le h runK_le
  rw [e37_2, len_idxL, ifT (by omega), ifF (by omega), hrl, ifT (by omega), ifF (by omega), cl_idxL hg, toInt_int, ifF (by omega), ifT (by omega), hxl, ifT (by omega), f32_is (v2 := C) (by omega)]
  dsimp +instances only [sl_row0, sl_rowS, toInt_int, toBool_bool]
  rw [ifT (by rfl)]
  by_cases c : fd C (cl T s 5) < 0
  ·rw [ifT c, f35_is hR (by omega) ho ok hr (D1 c)]
   dsimp +instances only [sl_row0, sl_rowS, toInt_int, toBool_bool]
   rw [ifT (by rfl)]
   by_cases m : nx S C T k s ∈ ks
   ·have ea : addK ks (nx S C T k s) = ks := if_pos m
    rw [cT (decide_eq_true m), ifF (by omega), wrapN (by omega), ea]
    have ih := f37_in hR hk (i := i) (fl := fl) hL hLl rem (pre ++ [s]) ks d b e' ho hr hl hi
    rw [epl] at ih
    exact ih
   ·have ea : addK ks (nx S C T k s) = ks ++ [nx S C T k s] := if_neg m
    rw [ea] at big ⊢
    rw [cF (decide_eq_false m), ifT (by omega), len_ad, hrl]
    by_cases g : 2000 < ks.length + 1
    ·rw [ifT (by omega)]
     exact .inl ⟨big (by simp; omega), rfl⟩
    ·rw [ifF (by omega), wrapN (by omega)]
     have hw : Cf S C (nx S C T k s) (cl T s 1) (ni (ct nilD (cl d i 1)) (decide (((len C : Nat) : Int) = 0))) := ⟨(D1 c).t, (D1 c).l, (D1 c).v, wd_ni (D1 c).w⟩
     have ih := f37_in hR hk (i := i) (fl := fl) hL hLl rem (pre ++ [s]) (ks ++ [nx S C T k s]) (ad d (.row [cl T s 1, ni (ct nilD (cl d i 1)) (decide (((len C : Nat) : Int) = 0))])) false e' eo (hr.ad hw) (by simp; omega) (by rw [List.getElem?_append_left hil]; exact hi)
     rw [epl] at ih
     exact ih
  ·have lt := fd_lt (l := C) (key := cl T s 5)
   have el : len (ct nilD (cl d i 1)) = len C := hxl
   rw [ifF c, el, ifT (by omega), f35_is hR (by omega) ho ok hr (D2 c)]
   dsimp +instances only [sl_row0, sl_rowS, toInt_int, toBool_bool]
   rw [ifT (by rfl)]
   by_cases m : nx S C T k s ∈ ks
   ·have ea : addK ks (nx S C T k s) = ks := if_pos m
    rw [cT (decide_eq_true m), ifF (by omega), wrapN (by omega), ea]
    have ih := f37_in hR hk (i := i) (fl := fl) hL hLl rem (pre ++ [s]) ks d b e' ho hr hl hi
    rw [epl] at ih
    exact ih
   ·have ea : addK ks (nx S C T k s) = ks ++ [nx S C T k s] := if_neg m
    rw [ea] at big ⊢
    rw [cF (decide_eq_false m), ifT (by omega), len_ad, hrl]
    by_cases g : 2000 < ks.length + 1
    ·rw [ifT (by omega)]
     exact .inl ⟨big (by simp; omega), rfl⟩
    ·rw [ifF (by omega), wrapN (by omega)]
     have hw : Cf S C (nx S C T k s) (cl T s 1) (ni (upd (ct nilD (cl d i 1)) (fd C (cl T s 5)) 0 (.int (IntKind.wrap .i64 ((cl (ct nilD (cl d i 1)) (fd C (cl T s 5)) 0).toInt + (cl T s 8).toInt)))) (decide (((len C : Nat) : Int) = 0))) := ⟨(D2 c).t, (D2 c).l, (D2 c).v, wd_ni (D2 c).w⟩
     have ih := f37_in hR hk (i := i) (fl := fl) hL hLl rem (pre ++ [s]) (ks ++ [nx S C T k s]) (ad d (.row [cl T s 1, ni (upd (ct nilD (cl d i 1)) (fd C (cl T s 5)) 0 (.int (IntKind.wrap .i64 ((cl (ct nilD (cl d i 1)) (fd C (cl T s 5)) 0).toInt + (cl T s 8).toInt)))) (decide (((len C : Nat) : Int) = 0))])) false e' eo (hr.ad hw) (by simp; omega) (by rw [List.getElem?_append_left hil]; exact hi)
     rw [epl] at ih
     exact ih
theorem f37_loop (hR : Rk S C T) : ∀ {f i : Nat} {ks : List Key} {d : D} {b : Bool}, i + f = 2000 → ks.length ≤ 2000 → AllOk S C ks → RL S C ks d →
  (2000 < (srch S C T f ks i).length ∧ f37_1 d (.bool b) (.int (i : Nat)) v0 S C T nilD = .row [.int 1, nilD, .bool true, .bool false]) ∨
  ((srch S C T f ks i).length ≤ 2000 ∧ ∃ d' b', RL S C (srch S C T f ks i) d' ∧ f37_1 d (.bool b) (.int (i : Nat)) v0 S C T nilD = .row [.int 1, d', .bool b', .bool true])
 | 0, i, ks, d, b => fun h hl ho hr => by
  right
  refine ⟨hl, d, b, hr, ?_⟩
  rw [e37_1, hr.l, ifF (by omega)]
 | f + 1, i, ks, d, b => fun h hl ho hr => by
  rw [e37_1, hr.l]
  by_cases c : i < ks.length
  ·have hg : ks[i]? = some ks[i] := List.getElem?_eq_getElem c
   have hk := ho _ (List.getElem_mem c)
   have hx := hr.c i _ hg
   rw [ifT (by omega), ifF (by omega), f36_is hR hk hx]
   dsimp +instances only [sl_row0, sl_rowS, toInt_int, toBool_bool]
   rw [ifT (by rfl), srch, hg]
   have ht := hR.t1
   have e := enl_len (S := S) (C := C) (T := T) (k := ks[i])
   rcases f37_in (v0 := v0) hR hk (i := i) (L := enl S C T ks[i]) (fl := (enl S C T ks[i]).isEmpty) (fun s hs => enl_mem hs) (by omega) (enl S C T ks[i]) [] ks d b rfl ho hr hl hg with ⟨g1, g2⟩ | ⟨g1, d', b', g2, g3⟩
   ·left
    refine ⟨Nat.lt_of_lt_of_le g1 (srch_le (f := f)), g2⟩
   ·have ih := f37_loop hR (f := f) (i := i + 1) (ks := expK S C T ks ks[i]) (d := d') (b := b') (by omega) g1 (expK_ok hR hk ho) g2
    have g3 : f37_2 d (.bool b) (.int (i : Nat)) (idxL (enl S C T ks[i])) (.bool (enl S C T ks[i]).isEmpty) (.int 0) v0 S C T nilD = f37_1 d' (.bool b') (.int (i + 1 : Nat)) v0 S C T nilD := g3
    rw [g3]
    exact ih
  ·right
   have e : srch S C T (f + 1) ks i = ks := by
    rw [srch, List.getElem?_eq_none (by omega)]
   rw [e]
   refine ⟨hl, d, b, hr, ?_⟩
   rw [ifF (by omega)]
theorem f37_is (hR : Rk S C T) : (2000 < (allK S C T).length ∧ f37_0 v0 S C T = .row [.int 1, nilD, .bool true, .bool false]) ∨ ((allK S C T).length ≤ 2000 ∧ ∃ d' b', RL S C (allK S C T) d' ∧ f37_0 v0 S C T = .row [.int 1, d', .bool b', .bool true]) := by
 have hs0 := hR.s0
 have hc := hR.c1
 rw [e37_0, ifT (by omega), ifT (by omega)]
 have k0 := key0_ok hR
 have hx : Cf S C key0 (cl S 0 0) (ni (rp (len C : Nat) (.row [.int 0])) false) := by
  refine ⟨strEqD_refl, by rw [len_ni, len_rp]; omega, fun j hj => ?_, wd_ni (wd_rp rfl)⟩
  rw [cl_ni, cl_rp (by omega) (by omega)]
  match j with
  | 0 => rfl
  | 1 => rfl
  | 2 => rfl
  | 3 => rfl
  | j + 4 => rfl
 have R0 : RL S C [] emptyD := ⟨rfl, fun i k h => by simp at h⟩
 exact f37_loop hR (f := 2000) (i := 0) (ks := [key0]) (d := ad emptyD (.row [cl S 0 0, ni (rp (len C : Nat) (.row [.int 0])) false])) (b := false) (by omega) (by show 1 ≤ _; omega) (fun k hk => by rw [List.mem_singleton.1 hk]; exact k0) (R0.ad hx)
theorem f25_is (hR : Rk S C T) {k : Key} (hk : KOk S C k) : ∃ x, f25_0 (.int k.1) (.int k.2.1) (.int k.2.2.1) (.int k.2.2.2.1) (.int k.2.2.2.2) v0 S C T = .row [.int 1, cl S k.1 0, x] ∧ Cf S C k (cl S k.1 0) x := by
 have hc := hR.c1
 have s0 := hk.s0
 have s1 := hk.s1
 rw [e25_0, ifF (by omega), ifT (by omega)]
 by_cases n0 : (len C : Int) = 0
 ·rw [ifT n0]
  exact ⟨_, rfl, strEqD_refl, by rw [len_emptyD]; omega, fun j hj => by omega, wd_emptyD⟩
 rw [ifF n0]
 by_cases n1 : (len C : Int) = 1
 ·rw [ifT n1]
  refine ⟨_, rfl, strEqD_refl, by rw [len_ad, len_emptyD]; omega, fun j hj => ?_, wd_ad wd_emptyD rfl⟩
  match j with
  | 0 => rfl
  | j + 1 => omega
 rw [ifF n1]
 by_cases n2 : (len C : Int) = 2
 ·rw [ifT n2]
  refine ⟨_, rfl, strEqD_refl, by rw [len_ad, len_ad, len_emptyD]; omega, fun j hj => ?_, wd_ad (wd_ad wd_emptyD rfl) rfl⟩
  match j with
  | 0 => rfl
  | 1 => rfl
  | j + 2 => omega
 rw [ifF n2]
 by_cases n3 : (len C : Int) = 3
 ·rw [ifT n3]
  refine ⟨_, rfl, strEqD_refl, by rw [len_ad, len_ad, len_ad, len_emptyD]; omega, fun j hj => ?_, wd_ad (wd_ad (wd_ad wd_emptyD rfl) rfl) rfl⟩
  match j with
  | 0 => rfl
  | 1 => rfl
  | 2 => rfl
  | j + 3 => omega
 rw [ifF n3]
 have n4 : (len C : Int) = 4 := by omega
 rw [ifT n4]
 refine ⟨_, rfl, strEqD_refl, by rw [len_ad, len_ad, len_ad, len_ad, len_emptyD]; omega, fun j hj => ?_, wd_ad (wd_ad (wd_ad (wd_ad wd_emptyD rfl) rfl) rfl) rfl⟩
 match j with
 | 0 => rfl
 | 1 => rfl
 | 2 => rfl
 | 3 => rfl
 | j + 4 => omega
theorem f26_loop (hR : Rk S C T) {ks : List Key} (ho : AllOk S C ks) (hl : ks.length < 100000) {fl : Bool} : ∀ i : Nat, i ≤ ks.length → ∃ d b, RL S C (ks.take i) d ∧ f26_1 nilD (.bool true) (listK ks) (.bool fl) (.int (ks.length : Nat)) (.int 0) v0 S C T = f26_1 d (.bool b) (listK ks) (.bool fl) (.int (ks.length : Nat)) (.int (i : Nat)) v0 S C T
 | 0, _ => ⟨nilD, true, ⟨rfl, fun i k h => by simp at h⟩, rfl⟩
 | i + 1, hi => by
  obtain ⟨d, b, h1, h2⟩ := f26_loop hR ho hl (fl := fl) i (by omega)
  have hg : ks[i]? = some ks[i] := List.getElem?_eq_getElem (by omega)
  have hk := ho _ (List.getElem_mem (show i < ks.length by omega))
  obtain ⟨x, f1, f2⟩ := f25_is (v0 := v0) hR hk
  have hd : len d = i := by
   have := h1.l
   simp at this
   omega
  refine ⟨ad d (.row [cl S ks[i].1 0, ni x false]), false, ?_, ?_⟩
  ·rw [List.take_add_one, hg]
   exact h1.ad ⟨f2.t, f2.l, f2.v, wd_ni f2.w⟩
  ·rw [h2, e26_1, ifT (by omega), ifF (by omega), len_listK, ifT (by omega), cl_listK hg, cl_listK hg, cl_listK hg, cl_listK hg, cl_listK hg]
   show cond (decide ((sl (f25_0 (.int ks[i].1) (.int ks[i].2.1) (.int ks[i].2.2.1) (.int ks[i].2.2.2.1) (.int ks[i].2.2.2.2) v0 S C T) 0).toInt = 1)) (cond (decide ((len d : Int) < 1048576)) (f26_1 (ad d (.row [sl (f25_0 (.int ks[i].1) (.int ks[i].2.1) (.int ks[i].2.2.1) (.int ks[i].2.2.2.1) (.int ks[i].2.2.2.2) v0 S C T) 1, ni (sl (f25_0 (.int ks[i].1) (.int ks[i].2.1) (.int ks[i].2.2.1) (.int ks[i].2.2.2.1) (.int ks[i].2.2.2.2) v0 S C T) 2) false])) (.bool false) (listK ks) (.bool fl) (.int (ks.length : Nat)) (.int (IntKind.wrap .i64 (i + 1))) v0 S C T) (.row [])) (.row []) = _
   rw [f1]
   dsimp +instances only [sl_row0, sl_rowS, toInt_int, toBool_bool]
   rw [ifT (by rfl), ifT (by omega), wrapN (by omega)]
end
end Ch
namespace Ch
open Go Go.AE
section
variable [While]
variable {S C T v0 : D}
theorem f38_is (hR : Rk S C T) {k : Key} {t x t' x' : D} (hk : KOk S C k) (h : Cf S C k t x) (h' : Cf S C k t' x') : f38_0 t x t' x' = .row [.int 1, .bool true] := by
 have hc := hR.c1
 obtain ⟨e, v⟩ := (Cf.key hR hk hk h h').2 rfl
 rw [e38_0, cT e, h.l, h'.l, ifT (by rfl)]
 have L := look (F := fun i => f38_1 (.int (i : Nat)) t x t' x') (n := len C) (bad := fun _ => false) (B := fun _ => .row []) (fun i hi => by
  show f38_1 (.int (i : Nat)) t x t' x' = f38_1 (.int (i + 1 : Nat)) t x t' x'
  rw [e38_1, h.l, h'.l, ifT (by omega), ifF (by omega), ifT (by omega), ifT (v i hi), wrapN (by omega)])
 refine (show f38_1 (.int 0) t x t' x' = cond _ (f38_1 (.int (len C : Nat)) t x t' x') _ from L).trans ?_
 rw [fdG_all (fun _ _ _ => rfl), ifT (by omega), e38_1, h.l, ifF (by omega)]
theorem f26_is (hs : StepOk T) (hc : ∀ i : Nat, i < len C → ∃ m, cl C i 1 = .int m) (hS : len S ≤ 8) (hT : len T ≤ 20) (hC : len C ≤ 5) :
  (rok v0 S C T = false ∧ f26_0 v0 S C T = .row [.int 1, nilD, .bool true, .int 2]) ∨
  (rok v0 S C T = true ∧ ((2000 < (allK S C T).length ∧ f26_0 v0 S C T = .row [.int 1, nilD, .bool true, .int 7]) ∨
   ((allK S C T).length ≤ 2000 ∧ ∃ d b, RL S C (allK S C T) d ∧ f26_0 v0 S C T = .row [.int 1, d, .bool b, .int 0]))) := by
 have X : f26_0 v0 S C T = cond (rok v0 S C T) (cond (decide ((sl (f24_0 (ad emptyD (.row [(.int 0), (.int 0), (.int 0), (.int 0), (.int 0)])) (.bool false) (.int 2000) v0 S C T) 0).toInt = 1)) (cond ((sl (f24_0 (ad emptyD (.row [(.int 0), (.int 0), (.int 0), (.int 0), (.int 0)])) (.bool false) (.int 2000) v0 S C T) 3).toBool) (.row [.int 1, nilD, (.bool true), (.int 7)])
   (f26_1 nilD (.bool true) (sl (f24_0 (ad emptyD (.row [(.int 0), (.int 0), (.int 0), (.int 0), (.int 0)])) (.bool false) (.int 2000) v0 S C T) 1) (sl (f24_0 (ad emptyD (.row [(.int 0), (.int 0), (.int 0), (.int 0), (.int 0)])) (.bool false) (.int 2000) v0 S C T) 2) (.int (len (sl (f24_0 (ad emptyD (.row [(.int 0), (.int 0), (.int 0), (.int 0), (.int 0)])) (.bool false) (.int 2000) v0 S C T) 1) : Int)) (.int 0) v0 S C T)) (.row [])) (.row [.int 1, nilD, (.bool true), (.int 2)]) := by
  rw [e26_0, f1_is, f3_is (v2 := C) (by omega), f5_is (v1 := S) (by omega), f7_is hs (by omega) (by omega) (by omega)]
  dsimp +instances only [sl_row0, sl_rowS, toInt_int, toBool_bool]
  simp only [decide_true, cond_true]
  unfold rok fewC fewS fewT
  cases nm v0
  ·rfl
  cases decide ((cond (decide (4 < (len C : Int))) 4 (fdG (badC C) (len C) 0)) < 0)
  ·rfl
  cases decide ((cond (decide ((len S : Int) < 1)) 0 (cond (decide (24 < (len S : Int))) 24 (fdG (badS S) (len S) 0))) < 0)
  ·rfl
  cases decide ((cond (decide (80 < (len T : Int))) 80 (fdG (badT v0 S C T) (len T) 0)) < 0) <;> rfl
 cases h : rok v0 S C T
 ·left
  rw [X, h]
  exact ⟨rfl, rfl⟩
 right
 refine ⟨rfl, ?_⟩
 have hR := rok_rk h hc hs hS hT
 rw [X, h, cond_true, f24_is hR]
 dsimp +instances only [sl_row0, sl_rowS, toInt_int, toBool_bool]
 rw [ifT (by rfl), len_listK]
 by_cases g : 2000 < (allK S C T).length
 ·left
  rw [ifT (by omega)]
  exact ⟨g, rfl⟩
 ·right
  rw [ifF (by omega)]
  have ok : AllOk S C (allK S C T) := srch_ok hR fun k hk => by rw [List.mem_singleton.1 hk]; exact key0_ok hR
  obtain ⟨d, b, h1, h2⟩ := f26_loop (v0 := v0) hR ok (by omega) (fl := (allK S C T).isEmpty) (allK S C T).length (Nat.le_refl _)
  rw [List.take_length] at h1
  refine ⟨by omega, d, b, h1, ?_⟩
  rw [h2, e26_1, ifF (by omega)]
theorem law (hs : StepOk T) (hc : ∀ i : Nat, i < len C → ∃ m, cl C i 1 = .int m) : f39_0 v0 S C T = .row [.int 1, .bool true] := by
 have k0 : (sl f0_0 0).toInt = 1 := by rw [e0_0]; rfl
 rw [e39_0]
 by_cases c1 : 8 < (len S : Int)
 ·rw [ifT c1, ifT k0]
 rw [ifF c1]
 by_cases c2 : 20 < (len T : Int)
 ·rw [ifT c2, ifT k0]
 rw [ifF c2]
 by_cases c3 : 5 < (len C : Int)
 ·rw [ifT c3, ifT k0]
 rw [ifF c3]
 obtain ⟨a, e, h1, h2⟩ := f31_is (v1 := S) (v2 := C) hs (by omega) (by omega) (by omega) v0
 rcases f26_is (S := S) (v0 := v0) hs hc (by omega) (by omega) (by omega) with ⟨q, g⟩ | ⟨q, g⟩
 ·rw [q] at h2
  rw [g, h1]
  dsimp +instances only [sl_row0, sl_rowS, toInt_int, toBool_bool]
  rw [ifT (by rfl), ifT (by rfl), ifF (dF h2), ifT (by rfl), ifT (by rfl), ifT k0]
 rw [q] at h2
 have hR := rok_rk q hc hs (by omega) (by omega)
 rcases g with ⟨gl, g⟩ | ⟨gl, d, b, hd, g⟩
 ·rcases f37_is (v0 := v0) hR with ⟨_, w⟩ | ⟨w, _⟩
  ·rw [g, h1, w]
   dsimp +instances only [sl_row0, sl_rowS, toInt_int, toBool_bool]
   rw [ifT (by rfl), ifT (by rfl), ifT (dT h2), ifT (by rfl), cond_false, ifT (by rfl), ifT (by rfl), ifT k0]
  ·omega
 ·rcases f37_is (v0 := v0) hR with ⟨w, _⟩ | ⟨_, d', b', hd', w⟩
  ·omega
  ·rw [g, h1, w]
   dsimp +instances only [sl_row0, sl_rowS, toInt_int, toBool_bool]
   rw [ifT (by rfl), ifT (by rfl), ifT (dT h2), ifT (by rfl), cond_true, ifT (by rfl), hd.l, hd'.l, ifT (by rfl)]
   have ok : AllOk S C (allK S C T) := srch_ok hR fun k hk => by rw [List.mem_singleton.1 hk]; exact key0_ok hR
   have L := look (F := fun i => f39_1 d (.bool b) d' (.bool b') (.int (i : Nat))) (n := (allK S C T).length) (bad := fun _ => false) (B := fun _ => .row []) (fun i hi => by
    show f39_1 d (.bool b) d' (.bool b') (.int (i : Nat)) = f39_1 d (.bool b) d' (.bool b') (.int (i + 1 : Nat))
    have hg : (allK S C T)[i]? = some ((allK S C T)[i]) := List.getElem?_eq_getElem hi
    rw [e39_1, hd.l, hd'.l, ifT (by omega), ifF (by omega), ifT (by omega), f38_is hR (ok _ (List.getElem_mem hi)) (hd.c i _ hg) (hd'.c i _ hg)]
    dsimp +instances only [sl_row0, sl_rowS, toInt_int, toBool_bool]
    rw [ifT (by rfl), cond_true, wrapN (by omega)])
   refine (show f39_1 d (.bool b) d' (.bool b') (.int 0) = cond _ (f39_1 d (.bool b) d' (.bool b') (.int ((allK S C T).length : Nat))) _ from L).trans ?_
   rw [fdG_all (fun _ _ _ => rfl), ifT (by omega), e39_1, hd.l, ifF (by omega), ifT k0]
end
end Ch
