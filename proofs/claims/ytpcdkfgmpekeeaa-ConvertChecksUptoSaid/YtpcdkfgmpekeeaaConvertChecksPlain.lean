/- What is proved: what the plain functions over data say, whose trees the text before writes out: the law ConvertChecks answers true. Conditions: those that each theorem states. -/
import Derived.Test.YtpcdkfgmpekeeaaConvertChecksTree
set_option linter.unusedVariables false
set_option linter.unusedSectionVars false
namespace Go.AE

/-! WHAT A PRINTED PROGRAM DOES, STEP BY STEP -/
section
variable [While]
/-- the values of the unknowns at a place, with the named functions of a program -/
def atV (Ts : List (List (Tr Plf))) (xs : List D) : Val := valD (gAll Ts) xs
/-- what is left after a turn -/
def fin (Ts : List (List (Tr Plf))) (k : Nat) (V : Val) : Plf → D
  | .stuck => .row []
  | .done s cs => .row (.int (s + 1 : Nat) :: cs.map (evalD V))
  | .next j θ => gAll Ts k (.row (.int j :: θ.map (evalD V)))
def finT (Ts : List (List (Tr Plf))) (k : Nat) (V : Val) (t : Tr Plf) : D := fin Ts k V (t.get V)
theorem g_eq {Ts : List (List (Tr Plf))} (h : tabsLt 0 Ts = true) {k p : Nat} {T : List (Tr Plf)} {t : Tr Plf} {xs : List D} (hk : Ts[k]? = some T) (hp : T[p]? = some t) :
    gAll Ts k (.row (.int (p : Nat) :: xs)) = finT Ts k (atV Ts xs) t := by
  have hd : dstep T (gAll Ts) (.row (.int (p : Nat) :: xs)) = dlStep (atV Ts xs) (t.get (atV Ts xs)) := by
    show (match T[p]? with | some t => dlStep _ (t.get _) | none => none) = _
    rw [hp]
    rfl
  unfold finT fin
  split
  · rename_i e
    rw [e] at hd
    rw [gAll_eq h hk]
    rcases whileD_or (dstep T (gAll Ts)) (.row (.int (p : Nat) :: xs)) with q | ⟨n, q⟩
    · exact q
    · cases n with
      | zero => cases q
      | succ n =>
        simp only [runW, hd] at q
        cases q
  · rename_i e
    rw [e] at hd
    rw [gAll_eq h hk]
    exact whileD_done hd
  · rename_i e
    rw [e] at hd
    rw [gAll_eq h hk, whileD_next hd, ← gAll_eq h hk]
theorem finT_split {Ts : List (List (Tr Plf))} {k : Nat} {V : Val} {e : SB} {a b : Tr Plf} : finT Ts k V (.split e a b) = if evalB V e = true then finT Ts k V a else finT Ts k V b := by
  unfold finT
  rw [show (Tr.split e a b).get V = match evalB V e with | true => a.get V | false => b.get V from rfl]
  cases evalB V e <;> rfl
theorem finT_leaf {Ts : List (List (Tr Plf))} {k : Nat} {V : Val} {l : Plf} : finT Ts k V (.leaf l) = fin Ts k V l := rfl
theorem fin_stuck {Ts : List (List (Tr Plf))} {k : Nat} {V : Val} : fin Ts k V .stuck = .row [] := rfl
theorem fin_done {Ts : List (List (Tr Plf))} {k s : Nat} {V : Val} {cs : List SE} : fin Ts k V (.done s cs) = .row (.int (s + 1 : Nat) :: cs.map (evalD V)) := rfl
theorem fin_next {Ts : List (List (Tr Plf))} {k j : Nat} {V : Val} {θ : List SE} : fin Ts k V (.next j θ) = gAll Ts k (.row (.int j :: θ.map (evalD V))) := rfl
end
/-- whether x is below y, as the trees ask it -/
theorem lss_iff {V : Val} {a b : SE} : evalB V (.lss a b) = true ↔ (evalD V a).toInt < (evalD V b).toInt := by
  show decide _ = true ↔ _
  rw [decide_eq_true_eq]
theorem eql_iff {V : Val} {a b : SE} : evalB V (.eql a b) = true ↔ (evalD V a).toInt = (evalD V b).toInt := by
  show ((_ : Int) == _) = true ↔ _
  rw [beq_iff_eq]
theorem wrap_i64 {a : Int} (h : -9223372036854775808 ≤ a) (h' : a < 9223372036854775808) : IntKind.wrap .i64 a = a := by
  show (if (true && decide (a % (2 ^ 64 : Int) ≥ 2 ^ 63)) = true then a % (2 ^ 64 : Int) - 2 ^ 64 else a % (2 ^ 64 : Int)) = a
  split
  · rename_i q
    simp only [Bool.true_and, decide_eq_true_eq] at q
    omega
  · rename_i q
    simp only [Bool.true_and, decide_eq_true_eq] at q
    omega
theorem ev_add {V : Val} {a b : SE} (h : -9223372036854775808 ≤ (evalD V a).toInt + (evalD V b).toInt) (h' : (evalD V a).toInt + (evalD V b).toInt < 9223372036854775808) :
    evalD V (.arith .add .i64 a b) = .int ((evalD V a).toInt + (evalD V b).toInt) := by
  show D.int (IntKind.wrap .i64 _) = _
  rw [wrap_i64 h h']
theorem ev_sub {V : Val} {a b : SE} (h : -9223372036854775808 ≤ (evalD V a).toInt - (evalD V b).toInt) (h' : (evalD V a).toInt - (evalD V b).toInt < 9223372036854775808) :
    evalD V (.arith .sub .i64 a b) = .int ((evalD V a).toInt - (evalD V b).toInt) := by
  show D.int (IntKind.wrap .i64 _) = _
  rw [wrap_i64 h h']
end Go.AE
namespace Go.AE
/-! WORDS FOR PLAIN DATA -/
def len (d : D) : Nat := d.rows.length
def slen (d : D) : Nat := d.toStr.data.toList.length
def cl (a : D) (i : Int) (j : Nat) : D := (a.rows.getD i.toNat default).cells.getD j default
def sl (a : D) (j : Nat) : D := a.cells.getD j default
def nilD : D := .slc true []
def emptyD : D := .slc false []
def ad (a r : D) : D := .slc false (a.rows ++ [r])
def upd (a : D) (i : Int) (j : Nat) (x : D) : D := .slc a.isNil (a.rows.modify i.toNat fun r => .row (r.cells.set j x))
def rp (n : Int) (r : D) : D := .slc false (List.replicate n.toNat r)
def ct (a b : D) : D := .slc (a.isNil && b.rows.isEmpty) (a.rows ++ b.rows)
def sb (a : D) (lo hi : Int) : D := .slc a.isNil ((a.rows.drop lo.toNat).take (hi.toNat - lo.toNat))
def ni (a : D) (b : Bool) : D := .slc b a.rows
def strD (l b : Nat) : D := .str ⟨(unpackL l b).toArray⟩
def sCat (a b : D) : D := .str (a.toStr ++ b.toStr)
def sSub (a : D) (lo hi : Int) : D := .str (a.toStr.extract lo.toNat hi.toNat)
def byts (a : D) : D := .slc false (a.toStr.data.toList.map fun b => .row [.int b.toNat])
def mIx (ks : List Kd) (a k : D) : Int := mIdxF ks k.cells a.rows 0
def rmvD (a : D) (i : Int) : D := .slc a.isNil (a.rows.eraseIdx i.toNat)
def sAt (a : D) (i : Int) : Int := ((a.toStr.data.toList[i.toNat]?).getD 0).toNat
def eqC (a : D) (l b : Nat) : Bool := strEq a.toStr.data.toList.length (packL a.toStr.data.toList) l b
def ari (op : BinOp) (k : IntKind) (x y : Int) : Int := match intBin op k x y with
  | some (.int _ n) => n
  | _ => 0
theorem ifT {α : Type} {p : Prop} [Decidable p] {a b : α} (h : p) : cond (decide p) a b = a := by rw [decide_eq_true h]; rfl
theorem ifF {α : Type} {p : Prop} [Decidable p] {a b : α} (h : ¬ p) : cond (decide p) a b = b := by rw [decide_eq_false h]; rfl
theorem cT {α : Type} {c : Bool} {a b : α} (h : c = true) : cond c a b = a := by rw [h]; rfl
theorem cF {α : Type} {c : Bool} {a b : α} (h : c = false) : cond c a b = b := by rw [h]; rfl
section
variable [While]
def walkT (Ts : List (List (Tr Plf))) (k : Nat) (V : Val) : Tr Plf → D
  | .leaf l => fin Ts k V l
  | .split e a b => cond (evalB V e) (walkT Ts k V a) (walkT Ts k V b)
theorem finT_walk {Ts : List (List (Tr Plf))} {k : Nat} {V : Val} : ∀ t : Tr Plf, finT Ts k V t = walkT Ts k V t
  | .leaf l => rfl
  | .split e a b => by
    rw [finT_split, finT_walk a, finT_walk b, walkT]
    cases evalB V e <;> rfl
theorem g_walk {Ts : List (List (Tr Plf))} (h : tabsLt 0 Ts = true) {k p : Nat} {T : List (Tr Plf)} {t : Tr Plf} {xs : List D} (hk : Ts[k]? = some T) (hp : T[p]? = some t) :
    gAll Ts k (.row (.int (p : Nat) :: xs)) = walkT Ts k (atV Ts xs) t := (g_eq h hk hp).trans (finT_walk t)
theorem cg {Ts : List (List (Tr Plf))} {k : Nat} {V : Val} {e : SB} {a b : Tr Plf} {c : Bool} {x y : D} (h : evalB V e = c) (ha : walkT Ts k V a = x) (hb : walkT Ts k V b = y) : walkT Ts k V (.split e a b) = cond c x y := by
  rw [walkT, h, ha, hb]
end
theorem lE {V : Val} {a b : SE} {x y : Int} (h : (evalD V a).toInt = x) (h' : (evalD V b).toInt = y) : evalB V (.lss a b) = decide (x < y) := by rw [← h, ← h']; rfl
theorem qE {V : Val} {a b : SE} {x y : Int} (h : (evalD V a).toInt = x) (h' : (evalD V b).toInt = y) : evalB V (.eql a b) = decide (x = y) := by rw [← h, ← h']; rfl
theorem aE {V : Val} {a b : SE} {x y : Bool} (h : evalB V a = x) (h' : evalB V b = y) : evalB V (.and a b) = (x && y) := by rw [← h, ← h']; rfl
theorem nE {V : Val} {a : SE} {x : Bool} (h : evalB V a = x) : evalB V (.neg a) = (!x) := by rw [← h]; rfl
end Go.AE
namespace Go.AE
/-! reading what was written -/
/-- every row has n cells -/
def Wd (a : D) (n : Nat) : Prop := ∀ r ∈ a.rows, ∃ cs, r = .row cs ∧ cs.length = n
theorem len_upd {a x : D} {i : Int} {j : Nat} : len (upd a i j x) = len a := by
  show (a.rows.modify _ _).length = _
  simp [len]
theorem len_ad {a r : D} : len (ad a r) = len a + 1 := by
  show (a.rows ++ [r]).length = _
  simp [len]
theorem len_rp {n : Int} {r : D} : len (rp n r) = n.toNat := by
  show (List.replicate _ _).length = _
  simp
theorem len_nilD : len nilD = 0 := rfl
theorem len_emptyD : len emptyD = 0 := rfl
theorem len_ct {a b : D} : len (ct a b) = len a + len b := by
  show (a.rows ++ b.rows).length = _
  simp [len]
theorem len_ni {a : D} {b : Bool} : len (ni a b) = len a := rfl
theorem len_sb {a : D} {lo hi : Int} (h : lo.toNat ≤ hi.toNat) (h' : hi.toNat ≤ len a) : len (sb a lo hi) = hi.toNat - lo.toNat := by
  show ((a.rows.drop _).take _).length = _
  have : hi.toNat ≤ a.rows.length := h'
  simp
  omega
theorem sl_row0 {x : D} {l : List D} : sl (.row (x :: l)) 0 = x := rfl
theorem sl_rowS {x : D} {l : List D} {n : Nat} : sl (.row (x :: l)) (n + 1) = sl (.row l) n := rfl
theorem toInt_int {n : Int} : (D.int n).toInt = n := rfl
theorem toBool_bool {b : Bool} : (D.bool b).toBool = b := rfl
theorem wd_nilD {n : Nat} : Wd nilD n := fun r hr => (by cases hr)
theorem wd_emptyD {n : Nat} : Wd emptyD n := fun r hr => (by cases hr)
theorem wd_ad {a : D} {cs : List D} {n : Nat} (h : Wd a n) (hc : cs.length = n) : Wd (ad a (.row cs)) n := by
  intro r hr
  have hr : r ∈ a.rows ++ [.row cs] := hr
  rcases List.mem_append.1 hr with q | q
  · exact h r q
  · exact ⟨cs, List.mem_singleton.1 q, hc⟩
theorem wd_rp {m : Int} {cs : List D} {n : Nat} (hc : cs.length = n) : Wd (rp m (.row cs)) n := fun r hr => ⟨cs, List.eq_of_mem_replicate hr, hc⟩
theorem wd_upd {a x : D} {i : Int} {j n : Nat} (h : Wd a n) : Wd (upd a i j x) n := by
  intro r hr
  have hr' : r ∈ a.rows.modify i.toNat fun r => .row (r.cells.set j x) := hr
  obtain ⟨k, hk, e⟩ := List.getElem_of_mem hr'
  rw [List.getElem_modify] at e
  have hk' : k < a.rows.length := by simpa using hk
  obtain ⟨cs, hc, hn⟩ := h _ (List.getElem_mem hk')
  split at e
  · rw [hc] at e
    exact ⟨_, e.symm, by simp [D.cells, hn]⟩
  · exact ⟨cs, by rw [← e]; exact hc, hn⟩
theorem wd_ni {a : D} {b : Bool} {n : Nat} (h : Wd a n) : Wd (ni a b) n := h
theorem wd_ct {a b : D} {n : Nat} (h : Wd a n) (h' : Wd b n) : Wd (ct a b) n := fun r hr => (List.mem_append.1 hr).elim (h r) (h' r)
theorem cl_upd {a x : D} {i k : Int} {j j' n : Nat} (h : Wd a n) (hj : j < n) (hi : 0 ≤ i) (hi' : i < len a) (hk : 0 ≤ k) : cl (upd a i j x) k j' = if k = i ∧ j' = j then x else cl a k j' := by
  have hi2 : i.toNat < a.rows.length := by have : len a = a.rows.length := rfl; omega
  show ((a.rows.modify i.toNat fun r => D.row (r.cells.set j x))[k.toNat]?.getD default).cells.getD j' default = _
  rw [List.getElem?_modify]
  by_cases q : k = i
  · subst q
    obtain ⟨cs, hc, hn⟩ := h _ (List.getElem_mem hi2)
    rw [List.getElem?_eq_getElem hi2]
    show ((if k.toNat = k.toNat then D.row ((a.rows[k.toNat]).cells.set j x) else a.rows[k.toNat]).cells[j']?).getD default = _
    rw [if_pos rfl, hc]
    show ((cs.set j x)[j']?).getD default = _
    rw [List.getElem?_set]
    by_cases q' : j = j'
    · subst q'
      rw [if_pos rfl, if_pos (by omega), if_pos ⟨rfl, rfl⟩]
      rfl
    · rw [if_neg q', if_neg (fun c => q' c.2.symm)]
      show _ = (a.rows[k.toNat]?.getD default).cells.getD j' default
      rw [List.getElem?_eq_getElem hi2, Option.getD_some, hc]
      rfl
  · have q2 : ¬ i.toNat = k.toNat := by omega
    rw [if_neg (fun c => q c.1)]
    simp [q2, cl]
theorem cl_upd_same {a x : D} {i : Int} {j n : Nat} (h : Wd a n) (hj : j < n) (hi : 0 ≤ i) (hi' : i < len a) : cl (upd a i j x) i j = x := by rw [cl_upd h hj hi hi' hi, if_pos ⟨rfl, rfl⟩]
theorem cl_upd_ne {a x : D} {i k : Int} {j j' n : Nat} (h : Wd a n) (hj : j < n) (hi : 0 ≤ i) (hi' : i < len a) (hk : 0 ≤ k) (hn : k ≠ i) : cl (upd a i j x) k j' = cl a k j' := by rw [cl_upd h hj hi hi' hk, if_neg (fun c => hn c.1)]
theorem cl_ad {a r : D} {k : Int} {j : Nat} (hk : 0 ≤ k) : cl (ad a r) k j = if k = len a then sl r j else cl a k j := by
  have hl : len a = a.rows.length := rfl
  show ((a.rows ++ [r])[k.toNat]?.getD default).cells.getD j default = _
  by_cases q : k.toNat < a.rows.length
  · rw [List.getElem?_append_left q, if_neg (by omega)]
    rfl
  · by_cases q' : k = len a
    · subst q'
      rw [if_pos rfl]
      have : ((len a : Int)).toNat = a.rows.length := by omega
      rw [this]
      simp [sl]
    · rw [if_neg q', List.getElem?_eq_none (by simp; omega)]
      show _ = (a.rows[k.toNat]?.getD default).cells.getD j default
      rw [List.getElem?_eq_none (by omega)]
theorem cl_rp {n k : Int} {r : D} {j : Nat} (hk : 0 ≤ k) (hk' : k < n) : cl (rp n r) k j = sl r j := by
  show ((List.replicate n.toNat r)[k.toNat]?.getD default).cells.getD j default = _
  rw [List.getElem?_replicate, if_pos (by omega)]
  rfl
theorem cl_ni {a : D} {b : Bool} {k : Int} {j : Nat} : cl (ni a b) k j = cl a k j := rfl
end Go.AE
namespace Go.AE
/-- a law's arguments -/
theorem law_can {P : Program} {ts : List TypeId} {xs : List D} {ks : List Kd} (h : LawArgs P ts xs) (hk : allKinds (Env.of P) ts = some ks) : ks.length = xs.length ∧ Can ks xs := by
  obtain ⟨ks', cs, M, e, hd, hc, _⟩ := h
  rw [hk] at e
  cases e
  exact ⟨hd.len.2, hc⟩
theorem law_deep {P : Program} {ts : List TypeId} {xs : List D} {ks : List Kd} (h : LawArgs P ts xs) (hk : allKinds (Env.of P) ts = some ks) : ks.length = xs.length ∧ CanL (Env.of P).kinds 9 ks xs := by
  obtain ⟨ks', cs, M, e, hd, _, hc⟩ := h
  rw [hk] at e
  cases e
  exact ⟨hd.len.2, hc⟩
end Go.AE
namespace Go.AE
theorem sl0_ne {x c : Int} {l : List D} (h : x ≠ c) : ¬ (sl (.row (.int x :: l)) 0).toInt = c := h
end Go.AE
namespace Go.AE
theorem CanK.cell {K : TypeId → Option (List Kd)} {m j : Nat} {e : TypeId} {ks : List Kd} {kd : Kd} {d : D} {i : Int} (h : CanK K (m + 1) (.slice e) d) (hk : K e = some ks) (h0 : 0 ≤ i) (hi : i < len d) (hj : ks[j]? = some kd) : CanK K m kd (cl d i j) := by
  obtain ⟨nl, rows, rfl, _, q⟩ := h
  have hi' : i.toNat < rows.length := by have : len (.slc nl rows) = rows.length := rfl; omega
  obtain ⟨cs, e1, _, e3⟩ := q ks hk _ (List.getElem_mem hi')
  show CanK K m kd ((rows[i.toNat]?.getD default).cells.getD j default)
  rw [List.getElem?_eq_getElem hi', Option.getD_some, e1]
  exact e3 j kd hj
theorem CanK.toI {K : TypeId → Option (List Kd)} {m : Nat} {k : IntKind} {d : D} (h : CanK K m (.int k) d) : ∃ n, d = .int n := by cases m <;> exact h
theorem CanK.toB {K : TypeId → Option (List Kd)} {m : Nat} {d : D} (h : CanK K m .bool d) : ∃ b, d = .bool b := by cases m <;> exact h
theorem CanK.toS {K : TypeId → Option (List Kd)} {m : Nat} {d : D} (h : CanK K m .str d) : ∃ s, d = .str s := by cases m <;> exact h
end Go.AE
namespace Go.AE
theorem CanK.wd {K : TypeId → Option (List Kd)} {m : Nat} {e : TypeId} {ks : List Kd} {d : D} (h : CanK K (m + 1) (.slice e) d) (hk : K e = some ks) : Wd d ks.length := by
  obtain ⟨nl, rows, rfl, _, q⟩ := h
  intro r hr
  obtain ⟨cs, e1, e2, _⟩ := q ks hk r hr
  exact ⟨cs, e1, e2⟩
end Go.AE
namespace Go.AE
/-! LOOPS THAT LOOK FOR THE FIRST ONE -/
/-- the first of k numbers from i on that is wanted, or -1 -/
def fdG (p : Nat → Bool) : Nat → Nat → Int
  | 0, _ => -1
  | k + 1, i => cond (p i) (i : Int) (fdG p k (i + 1))
theorem fdG_lt {p : Nat → Bool} : ∀ {k i : Nat}, fdG p k i < i + k
  | 0, i => by show (-1 : Int) < _; omega
  | k + 1, i => by
    rw [fdG]
    have := fdG_lt (p := p) (k := k) (i := i + 1)
    cases p i
    · show fdG p k (i + 1) < _; omega
    · show (i : Int) < _; omega
theorem fdG_ge {p : Nat → Bool} : ∀ {k i : Nat}, fdG p k i = -1 ∨ (i : Int) ≤ fdG p k i
  | 0, i => .inl rfl
  | k + 1, i => by
    rw [fdG]
    cases p i
    · show fdG p k (i + 1) = _ ∨ _ ≤ fdG p k (i + 1)
      rcases fdG_ge (p := p) (k := k) (i := i + 1) with h | h
      · exact .inl h
      · exact .inr (by omega)
    · exact .inr (Int.le_refl _)
theorem fdG_is {p : Nat → Bool} : ∀ {k i : Nat}, 0 ≤ fdG p k i → p (fdG p k i).toNat = true
  | 0, i => fun h => by simp [fdG] at h
  | k + 1, i => by
    rw [fdG]
    cases q : p i
    · exact fdG_is (k := k)
    · intro _
      show p i = true
      exact q
theorem fdG_le {p : Nat → Bool} : ∀ {k i j : Nat}, i ≤ j → j < i + k → p j = true → 0 ≤ fdG p k i ∧ fdG p k i ≤ j
  | 0, i, j => fun h h' => by omega
  | k + 1, i, j => by
    intro h h' hp
    rw [fdG]
    cases q : p i
    · have : i ≠ j := fun c => by rw [c, hp] at q; cases q
      exact fdG_le (k := k) (by omega) (by omega) hp
    · show 0 ≤ (i : Int) ∧ (i : Int) ≤ j; omega
theorem fdG_no {p : Nat → Bool} {k i j : Nat} (h : i ≤ j) (h' : (j : Int) < fdG p k i ∨ (fdG p k i < 0 ∧ j < i + k)) : p j = false := by
  cases q : p j
  · rfl
  · have := fdG_lt (p := p) (k := k) (i := i)
    have := fdG_le (p := p) (k := k) h (by omega) q
    omega
theorem fdG_all {p : Nat → Bool} {k i : Nat} (h : ∀ j, i ≤ j → j < i + k → p j = false) : fdG p k i = -1 := by
  rcases fdG_ge (p := p) (k := k) (i := i) with q | q
  · exact q
  · have a := fdG_is (p := p) (k := k) (i := i) (by omega)
    rw [h _ (by omega) (by have := fdG_lt (p := p) (k := k) (i := i); omega)] at a
    cases a
theorem fdG_congr {p q : Nat → Bool} : ∀ {k i : Nat}, (∀ j, i ≤ j → j < i + k → p j = q j) → fdG p k i = fdG q k i
  | 0, i, h => rfl
  | k + 1, i, h => by
    rw [fdG, fdG, h i (Nat.le_refl _) (by omega), fdG_congr fun j a b => h j (by omega) (by omega)]
/-- a loop that ends at the first one -/
theorem lookF {F : Nat → D} {bad : Nat → Bool} {B : Nat → D} {n : Nat} : ∀ {k i : Nat}, i + k = n → (∀ j, i ≤ j → j < n → F j = cond (bad j) (B j) (F (j + 1))) → F i = cond (decide (fdG bad k i < 0)) (F n) (B (fdG bad k i).toNat)
  | 0, i => fun h _ => by
    have : i = n := by omega
    subst this
    rfl
  | k + 1, i => fun h hs => by
    rw [hs i (Nat.le_refl _) (by omega), fdG]
    cases bad i
    · exact lookF (by omega) fun j a b => hs j (by omega) b
    · show B i = cond (decide ((i : Int) < 0)) _ (B (i : Int).toNat)
      rw [ifF (by omega)]
      rfl
theorem look {F : Nat → D} {bad : Nat → Bool} {B : Nat → D} {n : Nat} (hs : ∀ j, j < n → F j = cond (bad j) (B j) (F (j + 1))) : F 0 = cond (decide (fdG bad n 0 < 0)) (F n) (B (fdG bad n 0).toNat) := lookF (by omega) fun j _ b => hs j b
/-- a loop that answers with the first one -/
theorem find {F : Nat → D} {bad : Nat → Bool} {n : Nat} (hs : ∀ j, j < n → F j = cond (bad j) (.row [.int 1, .int (j : Nat)]) (F (j + 1))) (hr : F n = .row [.int 1, .int (-1)]) : F 0 = .row [.int 1, .int (fdG bad n 0)] := by
  rw [look hs, hr]
  have h := fdG_ge (p := bad) (k := n) (i := 0)
  by_cases q : fdG bad n 0 < 0
  · rw [ifT q]
    rcases h with h | h
    · rw [h]
    · omega
  · rw [ifF q]
    have : ((fdG bad n 0).toNat : Int) = fdG bad n 0 := by omega
    rw [this]
theorem wrapN {i : Nat} (h : i < 4611686018427387904) : IntKind.wrap .i64 ((i : Int) + 1) = ((i + 1 : Nat) : Int) := by rw [wrap_i64 (by omega) (by omega)]; omega
theorem cSplit {α : Type} {c : Bool} {a b x : α} (h1 : c = true → a = x) (h2 : c = false → b = x) : cond c a b = x := by
  cases c
  · exact h2 rfl
  · exact h1 rfl
theorem dT {p : Prop} [Decidable p] (h : decide p = true) : p := of_decide_eq_true h
theorem dF {p : Prop} [Decidable p] (h : decide p = false) : ¬ p := of_decide_eq_false h
theorem dComm {x y : Int} : decide (x = y) = decide (y = x) := decide_eq_decide.2 eq_comm
/-! texts -/
theorem strEqD_refl {a : D} : D.strEq a a = true := by
  show (Nat.beq _ _ && Nat.beq _ _) = true
  simp
theorem strEqD_comm {a b : D} : D.strEq a b = D.strEq b a := strEqComm (U := unk0) _ _ _ _
theorem eqC_zero {a : D} : eqC a 0 0 = decide (slen a = 0) := by
  show (Nat.beq _ 0 && Nat.beq _ 0) = _
  show _ = decide (a.toStr.data.toList.length = 0)
  cases a.toStr.data.toList <;> simp [packL]
theorem slen_cat {a b : D} : slen (sCat a b) = slen a + slen b := by
  show (a.toStr ++ b.toStr).data.toList.length = _
  simp [slen]
theorem sCat_empty {a b : D} : eqC (sCat a b) 0 0 = (eqC a 0 0 && eqC b 0 0) := by
  rw [eqC_zero, eqC_zero, eqC_zero, slen_cat, Bool.eq_iff_iff]
  simp
theorem strEqD_iff {a b : D} : D.strEq a b = true ↔ a.toStr = b.toStr := by
  show AE.strEq _ _ _ _ = true ↔ _
  rw [strEq_spec (U := unk0)]
  constructor
  · intro h
    rw [ByteArray.toList_eq, ByteArray.toList_eq] at h
    have : a.toStr.data.toList = b.toStr.data.toList := by simpa only [beq_iff_eq] using h
    exact ByteArray.ext (Array.toList_inj.1 this)
  · intro h
    rw [h]
    simp
theorem strEqD_trans {a b c : D} (h : D.strEq a b = true) (h' : D.strEq b c = true) : D.strEq a c = true := strEqD_iff.2 ((strEqD_iff.1 h).trans (strEqD_iff.1 h'))
theorem strEqD_congr {a b c : D} (h : D.strEq a b = true) : D.strEq a c = D.strEq b c := by
  show AE.strEq _ _ _ _ = AE.strEq _ _ _ _
  rw [strEqD_iff.1 h]
theorem cl_sb {a : D} {i : Nat} {j c : Nat} (hi : i ≤ len a) (hj : j < i) : cl (sb a 0 i) j c = cl a j c := by
  have hi' : i ≤ a.rows.length := hi
  show (((a.rows.drop 0).take (i - 0)).getD j default).cells.getD c default = (a.rows.getD j default).cells.getD c default
  rw [List.getD_eq_getElem?_getD, List.getD_eq_getElem?_getD, List.getElem?_take]
  simp [hj]
/-! maps -/
theorem mIx_str {a k : D} (hw : ∀ r ∈ a.rows, ∃ x l, r = .row (x :: l)) : mIx [.str] a (.row [k]) = fdG (fun i => D.strEq (cl a i 0) k) (len a) 0 := by
  have gen : ∀ (rs l : List D) (nl : Bool), (∀ r ∈ rs, ∃ x l, r = .row (x :: l)) → mIdxF [.str] [k] rs l.length = fdG (fun i => D.strEq (cl (.slc nl (l ++ rs)) i 0) k) rs.length l.length := by
    intro rs
    induction rs with
    | nil => intro l nl _; rfl
    | cons r rs ih =>
      intro l nl hr
      rw [mIdxF, List.length_cons, fdG]
      have e : cl (.slc nl (l ++ r :: rs)) (l.length : Nat) 0 = r.cells.getD 0 default := by
        show ((l ++ r :: rs).getD l.length default).cells.getD 0 default = _
        simp
      have i2 := ih (l ++ [r]) nl fun x hx => hr x (List.mem_cons_of_mem _ hx)
      rw [List.length_append, List.append_assoc] at i2
      have i2 : mIdxF [.str] [k] rs (l.length + 1) = fdG (fun i => D.strEq (cl (.slc nl (l ++ r :: rs)) i 0) k) rs.length (l.length + 1) := i2
      rw [e, i2]
      have h : keyD [.str] r.cells [k] = D.strEq (r.cells.getD 0 default) k := by
        obtain ⟨x, t, e⟩ := hr r (List.mem_cons_self ..)
        subst e
        show (D.strEq x k && true) = D.strEq x k
        rw [Bool.and_true]
      rw [h]
      cases D.strEq (r.cells.getD 0 default) k <;> rfl
  have h := gen a.rows [] a.isNil hw
  exact h
/-- a loop that keeps whether there was one -/
theorem accumF {G : Bool → Nat → D} {p : Nat → Bool} {n : Nat} : ∀ {k i : Nat} {b : Bool}, i + k = n → (∀ (b : Bool) (j : Nat), j < n → G b j = cond b (G true (j + 1)) (G (p j) (j + 1))) → G b i = G (b || !decide (fdG p k i < 0)) n
  | 0, i, b => fun h _ => by
    have : i = n := by omega
    subst this
    show G b i = G (b || !decide ((-1 : Int) < 0)) i
    cases b <;> rfl
  | k + 1, i, b => fun h hs => by
    rw [hs b i (by omega), fdG]
    cases b
    · rw [cond_false, accumF (k := k) (i := i + 1) (by omega) hs]
      cases q : p i
      · rfl
      · show _ = G (false || !decide ((i : Int) < 0)) n
        rw [decide_eq_false (show ¬ (i : Int) < 0 by omega)]
        rfl
    · rw [cond_true, accumF (k := k) (i := i + 1) (by omega) hs]
      rfl
theorem accum {G : Bool → Nat → D} {p : Nat → Bool} {n : Nat} {b : Bool} (hs : ∀ (b : Bool) (j : Nat), j < n → G b j = cond b (G true (j + 1)) (G (p j) (j + 1))) : G b 0 = G (b || !decide (fdG p n 0 < 0)) n := accumF (by omega) hs
/-- the map of the first i keys -/
def seenM (f : Nat → D) (i : Nat) : D := .slc false ((List.range i).map fun j => .row [f j, .bool true])
theorem seenM_zero {f : Nat → D} : seenM f 0 = emptyD := rfl
theorem seenM_succ {f : Nat → D} {i : Nat} : ad (seenM f i) (.row [f i, .bool true]) = seenM f (i + 1) := by
  unfold seenM ad
  rw [List.range_succ, List.map_append]
  rfl
theorem seenM_ix {f : Nat → D} {i : Nat} {k : D} : mIx [.str] (seenM f i) (.row [k]) = fdG (fun j => D.strEq (f j) k) i 0 := by
  rw [mIx_str (by
    intro r hr
    obtain ⟨j, _, e⟩ := List.mem_map.1 hr
    exact ⟨_, _, e.symm⟩)]
  have hl : len (seenM f i) = i := by unfold len seenM; simp [D.rows]
  rw [hl]
  refine fdG_congr fun j _ hj => ?_
  have : cl (seenM f i) j 0 = f j := by
    show ((((List.range i).map fun j => D.row [f j, .bool true])[j]?).getD default).cells.getD 0 default = f j
    rw [List.getElem?_map, List.getElem?_range (by omega)]
    rfl
  rw [this]
theorem seenM_cell {f : Nat → D} {i : Nat} {j : Int} (h0 : 0 ≤ j) (h : j < i) : cl (seenM f i) j 1 = .bool true := by
  show ((((List.range i).map fun j => D.row [f j, .bool true])[j.toNat]?).getD default).cells.getD 1 default = _
  rw [List.getElem?_map, List.getElem?_range (by omega)]
  rfl
/-! the arguments of a law whose texts are short -/
theorem law_up {P : Program} {ts : List TypeId} {xs : List D} {ks : List Kd} {o : Option Nat} (h : LawArgsUp o P ts xs) (hk : allKinds (Env.of P) ts = some ks) : ks.length = xs.length ∧ CanL (Env.of P).kinds 9 ks xs ∧ ShL (Env.of P).kinds o 9 ks xs := by
  obtain ⟨ks', cs, M, e, hd, hc, hs⟩ := h
  rw [hk] at e
  cases e
  exact ⟨hd.len.2, hc.2, hs⟩
theorem ShK.cell {K : TypeId → Option (List Kd)} {o : Option Nat} {m j : Nat} {e : TypeId} {ks : List Kd} {kd : Kd} {d : D} {i : Nat} (h : ShK K o (m + 1) (.slice e) d) (hk : K e = some ks) (hi : i < len d) (hj : ks[j]? = some kd) : ShK K o m kd (cl d i j) := h ks hk i hi j kd hj
theorem ShK.text {K : TypeId → Option (List Kd)} {b m : Nat} {d : D} (h : ShK K (some b) m .str d) : slen d ≤ b := by
  have : leB (some b) (slen d) := by cases m <;> exact h
  exact this b rfl
end Go.AE
set_option maxRecDepth 100000
namespace Cv
open Go Go.AE
theorem lt : tabsLt 0 ts = true := by decide
section
variable [While]
/-! 0: phrasebook/phrasebooklaw48.known -/
def f0_0 : D := gAll ts 0 (.row [.int (0 : Nat)])
/-! 1: phrasebook/role.Name -/
def f1_0 (v0 : D) : D := gAll ts 1 (.row [.int (0 : Nat), v0])
def f1_1 (v0 v1 v2 : D) : D := gAll ts 1 (.row [.int (1 : Nat), v0, v1, v2])
/-! 2: slices.IndexFunc[[]phrasebook/api.CounterDef,phrasebook/api.CounterDef] -/
def f2_0 (v0 v1 : D) : D := gAll ts 2 (.row [.int (0 : Nat), v0, v1])
def f2_1 (v0 v1 v2 : D) : D := gAll ts 2 (.row [.int (1 : Nat), v0, v1, v2])
/-! 3: phrasebook/role.few -/
def f3_0 (v0 v1 v2 v3 v4 v5 v6 : D) : D := gAll ts 3 (.row [.int (0 : Nat), v0, v1, v2, v3, v4, v5, v6])
def f3_1 (v0 v1 v2 v3 v4 v5 : D) : D := gAll ts 3 (.row [.int (1 : Nat), v0, v1, v2, v3, v4, v5])
/-! 4: slices.IndexFunc[[]phrasebook/api.State,phrasebook/api.State] -/
def f4_0 (v0 v1 : D) : D := gAll ts 4 (.row [.int (0 : Nat), v0, v1])
def f4_1 (v0 v1 v2 : D) : D := gAll ts 4 (.row [.int (1 : Nat), v0, v1, v2])
/-! 5: phrasebook/role.few -/
def f5_0 (v0 v1 v2 v3 v4 v5 v6 : D) : D := gAll ts 5 (.row [.int (0 : Nat), v0, v1, v2, v3, v4, v5, v6])
def f5_1 (v0 v1 v2 v3 v4 v5 : D) : D := gAll ts 5 (.row [.int (1 : Nat), v0, v1, v2, v3, v4, v5])
/-! 6: slices.Index[[]phrasebook/api.Step,phrasebook/api.Step] -/
def f6_0 (v0 v1 v2 v3 v4 v5 v6 v7 v8 v9 : D) : D := gAll ts 6 (.row [.int (0 : Nat), v0, v1, v2, v3, v4, v5, v6, v7, v8, v9])
def f6_1 (v0 v1 v2 v3 v4 v5 v6 v7 v8 v9 v10 : D) : D := gAll ts 6 (.row [.int (1 : Nat), v0, v1, v2, v3, v4, v5, v6, v7, v8, v9, v10])
/-! 7: phrasebook/role.few -/
def f7_0 (v0 v1 v2 v3 v4 v5 v6 : D) : D := gAll ts 7 (.row [.int (0 : Nat), v0, v1, v2, v3, v4, v5, v6])
def f7_1 (v0 v1 v2 v3 v4 v5 : D) : D := gAll ts 7 (.row [.int (1 : Nat), v0, v1, v2, v3, v4, v5])
/-! 8: slices.IndexFunc[[]phrasebook/api.State,phrasebook/api.State] -/
def f8_0 (v0 v1 : D) : D := gAll ts 8 (.row [.int (0 : Nat), v0, v1])
def f8_1 (v0 v1 v2 : D) : D := gAll ts 8 (.row [.int (1 : Nat), v0, v1, v2])
/-! 9: slices.IndexFunc[[]phrasebook/api.CounterDef,phrasebook/api.CounterDef] -/
def f9_0 (v0 v1 : D) : D := gAll ts 9 (.row [.int (0 : Nat), v0, v1])
def f9_1 (v0 v1 v2 : D) : D := gAll ts 9 (.row [.int (1 : Nat), v0, v1, v2])
/-! 10: phrasebook/convert.Check -/
def f10_0 (v0 v1 v2 v3 v4 v5 v6 v7 v8 v9 : D) : D := gAll ts 10 (.row [.int (0 : Nat), v0, v1, v2, v3, v4, v5, v6, v7, v8, v9])
def f10_1 (v0 v1 v2 v3 v4 v5 v6 v7 v8 v9 v10 v11 v12 : D) : D := gAll ts 10 (.row [.int (1 : Nat), v0, v1, v2, v3, v4, v5, v6, v7, v8, v9, v10, v11, v12])
def f10_2 (v0 v1 v2 v3 v4 v5 v6 v7 v8 v9 v10 v11 v12 v13 v14 v15 : D) : D := gAll ts 10 (.row [.int (2 : Nat), v0, v1, v2, v3, v4, v5, v6, v7, v8, v9, v10, v11, v12, v13, v14, v15])
/-! 11: phrasebook/phrasebookref28.Name -/
def f11_0 (v0 : D) : D := gAll ts 11 (.row [.int (0 : Nat), v0])
def f11_1 (v0 v1 : D) : D := gAll ts 11 (.row [.int (1 : Nat), v0, v1])
/-! 12: phrasebook/phrasebookref28.counter -/
def f12_0 (v0 v1 v2 v3 v4 : D) : D := gAll ts 12 (.row [.int (0 : Nat), v0, v1, v2, v3, v4])
def f12_1 (v0 v1 v2 v3 v4 v5 : D) : D := gAll ts 12 (.row [.int (1 : Nat), v0, v1, v2, v3, v4, v5])
/-! 13: phrasebook/phrasebookref28.state -/
def f13_0 (v0 v1 v2 v3 v4 : D) : D := gAll ts 13 (.row [.int (0 : Nat), v0, v1, v2, v3, v4])
def f13_1 (v0 v1 v2 v3 v4 v5 : D) : D := gAll ts 13 (.row [.int (1 : Nat), v0, v1, v2, v3, v4, v5])
/-! 14: phrasebook/phrasebookref28.allowed -/
def f14_0 (v0 v1 v2 v3 v4 : D) : D := gAll ts 14 (.row [.int (0 : Nat), v0, v1, v2, v3, v4])
def f14_1 (v0 v1 v2 v3 v4 v5 v6 v7 v8 v9 v10 v11 v12 v13 v14 v15 : D) : D := gAll ts 14 (.row [.int (1 : Nat), v0, v1, v2, v3, v4, v5, v6, v7, v8, v9, v10, v11, v12, v13, v14, v15])
/-! 15: phrasebook/phrasebookref28.Check -/
def f15_0 (v0 v1 v2 v3 : D) : D := gAll ts 15 (.row [.int (0 : Nat), v0, v1, v2, v3])
def f15_1 (v0 v1 v2 v3 v4 : D) : D := gAll ts 15 (.row [.int (1 : Nat), v0, v1, v2, v3, v4])
def f15_2 (v0 v1 v2 v3 v4 : D) : D := gAll ts 15 (.row [.int (2 : Nat), v0, v1, v2, v3, v4])
def f15_3 (v0 v1 v2 v3 v4 : D) : D := gAll ts 15 (.row [.int (3 : Nat), v0, v1, v2, v3, v4])
/-! 16: phrasebook/phrasebookref48.state -/
def f16_0 (v0 v1 v2 v3 v4 : D) : D := gAll ts 16 (.row [.int (0 : Nat), v0, v1, v2, v3, v4])
def f16_1 (v0 v1 v2 v3 v4 v5 : D) : D := gAll ts 16 (.row [.int (1 : Nat), v0, v1, v2, v3, v4, v5])
/-! 17: phrasebook/phrasebookref48.counter -/
def f17_0 (v0 v1 v2 v3 v4 : D) : D := gAll ts 17 (.row [.int (0 : Nat), v0, v1, v2, v3, v4])
def f17_1 (v0 v1 v2 v3 v4 v5 : D) : D := gAll ts 17 (.row [.int (1 : Nat), v0, v1, v2, v3, v4, v5])
/-! 18: phrasebook/phrasebookref48.Check -/
def f18_0 (v0 v1 v2 v3 v4 v5 v6 v7 v8 v9 : D) : D := gAll ts 18 (.row [.int (0 : Nat), v0, v1, v2, v3, v4, v5, v6, v7, v8, v9])
def f18_1 (v0 v1 v2 v3 v4 v5 v6 v7 v8 v9 v10 : D) : D := gAll ts 18 (.row [.int (1 : Nat), v0, v1, v2, v3, v4, v5, v6, v7, v8, v9, v10])
def f18_2 (v0 v1 v2 v3 v4 v5 v6 v7 v8 v9 v10 v11 v12 : D) : D := gAll ts 18 (.row [.int (2 : Nat), v0, v1, v2, v3, v4, v5, v6, v7, v8, v9, v10, v11, v12])
def f18_3 (v0 v1 v2 v3 v4 v5 v6 v7 v8 v9 v10 : D) : D := gAll ts 18 (.row [.int (3 : Nat), v0, v1, v2, v3, v4, v5, v6, v7, v8, v9, v10])
def f18_4 (v0 v1 v2 v3 v4 v5 v6 v7 v8 v9 v10 v11 v12 v13 v14 v15 : D) : D := gAll ts 18 (.row [.int (4 : Nat), v0, v1, v2, v3, v4, v5, v6, v7, v8, v9, v10, v11, v12, v13, v14, v15])
/-! 19: phrasebook/convert.keyOf -/
def f19_0 (v0 v1 v2 v3 v4 v5 : D) : D := gAll ts 19 (.row [.int (0 : Nat), v0, v1, v2, v3, v4, v5])
def f19_1 (v0 v1 v2 v3 v4 v5 v6 v7 : D) : D := gAll ts 19 (.row [.int (1 : Nat), v0, v1, v2, v3, v4, v5, v6, v7])
/-! 20: slices.IndexFunc[[]phrasebook/api.StatePair,phrasebook/api.StatePair] -/
def f20_0 (v0 v1 v2 v3 v4 v5 v6 v7 v8 v9 : D) : D := gAll ts 20 (.row [.int (0 : Nat), v0, v1, v2, v3, v4, v5, v6, v7, v8, v9])
def f20_1 (v0 v1 v2 v3 v4 v5 v6 v7 v8 v9 v10 : D) : D := gAll ts 20 (.row [.int (1 : Nat), v0, v1, v2, v3, v4, v5, v6, v7, v8, v9, v10])
/-! 21: phrasebook/convert.convert -/
def f21_0 (v0 v1 v2 v3 v4 v5 v6 v7 v8 v9 v10 v11 v12 v13 v14 : D) : D := gAll ts 21 (.row [.int (0 : Nat), v0, v1, v2, v3, v4, v5, v6, v7, v8, v9, v10, v11, v12, v13, v14])
def f21_1 (v0 v1 v2 v3 v4 v5 v6 v7 v8 v9 v10 v11 v12 v13 v14 v15 v16 v17 v18 v19 : D) : D := gAll ts 21 (.row [.int (1 : Nat), v0, v1, v2, v3, v4, v5, v6, v7, v8, v9, v10, v11, v12, v13, v14, v15, v16, v17, v18, v19])
/-! 22: phrasebook/phrasebookref48.Is -/
def f22_0 (v0 v1 v2 v3 v4 v5 : D) : D := gAll ts 22 (.row [.int (0 : Nat), v0, v1, v2, v3, v4, v5])
def f22_1 (v0 v1 v2 v3 v4 v5 v6 : D) : D := gAll ts 22 (.row [.int (1 : Nat), v0, v1, v2, v3, v4, v5, v6])
/-! 23: phrasebook/phrasebookref48.Is -/
def f23_0 (v0 v1 v2 v3 v4 v5 v6 : D) : D := gAll ts 23 (.row [.int (0 : Nat), v0, v1, v2, v3, v4, v5, v6])
def f23_1 (v0 v1 v2 v3 v4 v5 v6 v7 : D) : D := gAll ts 23 (.row [.int (1 : Nat), v0, v1, v2, v3, v4, v5, v6, v7])
/-! 24: phrasebook/phrasebookref48.Apply -/
def f24_0 (v0 v1 v2 v3 v4 v5 v6 v7 v8 v9 v10 v11 : D) : D := gAll ts 24 (.row [.int (0 : Nat), v0, v1, v2, v3, v4, v5, v6, v7, v8, v9, v10, v11])
def f24_1 (v0 v1 v2 v3 v4 v5 v6 v7 v8 v9 v10 v11 v12 v13 v14 v15 : D) : D := gAll ts 24 (.row [.int (1 : Nat), v0, v1, v2, v3, v4, v5, v6, v7, v8, v9, v10, v11, v12, v13, v14, v15])
def f24_2 (v0 v1 v2 v3 v4 v5 v6 v7 v8 v9 v10 v11 v12 v13 v14 : D) : D := gAll ts 24 (.row [.int (2 : Nat), v0, v1, v2, v3, v4, v5, v6, v7, v8, v9, v10, v11, v12, v13, v14])
/-! 25: phrasebook/phrasebookref48.Same -/
def f25_0 (v0 v1 v2 v3 v4 v5 : D) : D := gAll ts 25 (.row [.int (0 : Nat), v0, v1, v2, v3, v4, v5])
def f25_1 (v0 v1 v2 v3 v4 v5 v6 : D) : D := gAll ts 25 (.row [.int (1 : Nat), v0, v1, v2, v3, v4, v5, v6])
/-! 26: phrasebook/phrasebooklaw48.ConvertChecks -/
def f26_0 (v0 v1 v2 v3 v4 v5 v6 v7 v8 v9 v10 v11 : D) : D := gAll ts 26 (.row [.int (0 : Nat), v0, v1, v2, v3, v4, v5, v6, v7, v8, v9, v10, v11])
/-! 0: phrasebook/phrasebooklaw48.known -/
theorem e0_0 : f0_0 =
  .row [.int 1] :=
  (g_walk lt (T := t0) (t := t0p0) rfl rfl).trans rfl
/-! 1: phrasebook/role.Name -/
theorem e1_0 (v0 : D) : f1_0 v0 =
  cond (decide ((slen v0 : Int) < 1)) (
 .row [.int 1, (.bool false)]) (
 cond (decide (32 < (slen v0 : Int))) (
 .row [.int 1, (.bool false)]) (
 f1_1 (byts v0) (.int (len (byts v0) : Int)) (.int 0))) :=
  (g_walk lt (T := t1) (t := t1p0) rfl rfl).trans (cg (lE rfl rfl) rfl (cg (lE rfl rfl) rfl rfl))
theorem e1_1 (v0 : D) (v1 : Int) (v2 : Int) : f1_1 v0 (.int v1) (.int v2) =
  cond (decide (v2 < v1)) (
 cond (decide (v2 < 0)) (
 .row []) (
 cond (decide (v2 < (len v0 : Int))) (
 cond (decide ((IntKind.wrap .u8 (cl v0 v2 0).toInt) < 97)) (
 cond (decide ((IntKind.wrap .u8 (cl v0 v2 0).toInt) < 65)) (
 cond (decide (v2 = 0)) (
 .row [.int 1, (.bool false)]) (
 cond (decide ((IntKind.wrap .u8 (cl v0 v2 0).toInt) < 48)) (
 .row [.int 1, (.bool false)]) (
 cond (decide (57 < (IntKind.wrap .u8 (cl v0 v2 0).toInt))) (
 .row [.int 1, (.bool false)]) (
 f1_1 v0 (.int v1) (.int (IntKind.wrap .i64 (v2 + 1))))))) (
 cond (decide (90 < (IntKind.wrap .u8 (cl v0 v2 0).toInt))) (
 cond (decide (v2 = 0)) (
 .row [.int 1, (.bool false)]) (
 cond (decide ((IntKind.wrap .u8 (cl v0 v2 0).toInt) = 95)) (
 f1_1 v0 (.int v1) (.int (IntKind.wrap .i64 (v2 + 1)))) (
 .row [.int 1, (.bool false)]))) (
 f1_1 v0 (.int v1) (.int (IntKind.wrap .i64 (v2 + 1)))))) (
 cond (decide (122 < (IntKind.wrap .u8 (cl v0 v2 0).toInt))) (
 cond (decide (v2 = 0)) (
 .row [.int 1, (.bool false)]) (
 .row [.int 1, (.bool false)])) (
 f1_1 v0 (.int v1) (.int (IntKind.wrap .i64 (v2 + 1)))))) (
 .row []))) (
 .row [.int 1, (.bool true)]) :=
  (g_walk lt (T := t1) (t := t1p1) rfl rfl).trans (cg (lE rfl rfl) (cg (lE rfl rfl) rfl (cg (lE rfl rfl) (cg (lE rfl rfl) (cg (lE rfl rfl) (cg (qE rfl rfl) rfl (cg (lE rfl rfl) rfl (cg (lE rfl rfl) rfl rfl))) (cg (lE rfl rfl) (cg (qE rfl rfl) rfl (cg (qE rfl rfl) rfl rfl)) rfl)) (cg (lE rfl rfl) (cg (qE rfl rfl) rfl rfl) rfl)) rfl)) rfl)
/-! 2: slices.IndexFunc[[]phrasebook/api.CounterDef,phrasebook/api.CounterDef] -/
theorem e2_0 (v0 : D) (v1 : D) : f2_0 v0 v1 =
  f2_1 v0 (.int 0) v1 :=
  (g_walk lt (T := t2) (t := t2p0) rfl rfl).trans rfl
theorem e2_1 (v0 : D) (v1 : Int) (v2 : D) : f2_1 v0 (.int v1) v2 =
  cond (decide (v1 < (len v0 : Int))) (
 cond (decide (v1 < 0)) (
 .row []) (
 cond (D.strEq (cl v0 v1 0) v2) (
 .row [.int 1, (.int v1)]) (
 f2_1 v0 (.int (IntKind.wrap .i64 (v1 + 1))) v2))) (
 .row [.int 1, (.int (-1))]) :=
  (g_walk lt (T := t2) (t := t2p1) rfl rfl).trans (cg (lE rfl rfl) (cg (lE rfl rfl) rfl (cg rfl rfl rfl)) rfl)
/-! 3: phrasebook/role.few -/
theorem e3_0 (v0 : Int) (v1 : Int) (v2 : Int) (v3 : D) (v4 : D) (v5 : D) (v6 : D) : f3_0 (.int v0) (.int v1) (.int v2) v3 v4 v5 v6 =
  cond (decide (v0 < v1)) (
 .row [.int 1, (.int 0)]) (
 cond (decide (v2 < v0)) (
 .row [.int 1, (.int v2)]) (
 f3_1 (.int v0) (.int 0) v3 v4 v5 v6)) :=
  (g_walk lt (T := t3) (t := t3p0) rfl rfl).trans (cg (lE rfl rfl) rfl (cg (lE rfl rfl) rfl rfl))
theorem e3_1 (v0 : Int) (v1 : Int) (v2 : D) (v3 : D) (v4 : D) (v5 : D) : f3_1 (.int v0) (.int v1) v2 v3 v4 v5 =
  cond (decide (v1 < v0)) (
 cond (decide (v1 < 0)) (
 .row []) (
 cond (decide (v1 < (len v4 : Int))) (
 cond (decide ((sl (f1_0 (cl v4 v1 0)) 0).toInt = 1)) (
 cond ((sl (f1_0 (cl v4 v1 0)) 1).toBool) (
 cond (decide ((sl (f2_0 v4 (cl v4 v1 0)) 0).toInt = 1)) (
 cond (decide ((sl (f2_0 v4 (cl v4 v1 0)) 1).toInt < v1)) (
 .row [.int 1, (.int v1)]) (
 cond (decide ((cl v4 v1 1).toInt < 1)) (
 .row [.int 1, (.int v1)]) (
 cond (decide (1000 < (cl v4 v1 1).toInt)) (
 .row [.int 1, (.int v1)]) (
 f3_1 (.int v0) (.int (IntKind.wrap .i64 (v1 + 1))) v2 v3 v4 v5)))) (
 .row [])) (
 .row [.int 1, (.int v1)])) (
 .row [])) (
 .row []))) (
 .row [.int 1, (.int (-1))]) :=
  (g_walk lt (T := t3) (t := t3p1) rfl rfl).trans (cg (lE rfl rfl) (cg (lE rfl rfl) rfl (cg (lE rfl rfl) (cg (qE rfl rfl) (cg rfl (cg (qE rfl rfl) (cg (lE rfl rfl) rfl (cg (lE rfl rfl) rfl (cg (lE rfl rfl) rfl rfl))) rfl) rfl) rfl) rfl)) rfl)
/-! 4: slices.IndexFunc[[]phrasebook/api.State,phrasebook/api.State] -/
theorem e4_0 (v0 : D) (v1 : D) : f4_0 v0 v1 =
  f4_1 v0 (.int 0) v1 :=
  (g_walk lt (T := t4) (t := t4p0) rfl rfl).trans rfl
theorem e4_1 (v0 : D) (v1 : Int) (v2 : D) : f4_1 v0 (.int v1) v2 =
  cond (decide (v1 < (len v0 : Int))) (
 cond (decide (v1 < 0)) (
 .row []) (
 cond (D.strEq (cl v0 v1 0) v2) (
 .row [.int 1, (.int v1)]) (
 f4_1 v0 (.int (IntKind.wrap .i64 (v1 + 1))) v2))) (
 .row [.int 1, (.int (-1))]) :=
  (g_walk lt (T := t4) (t := t4p1) rfl rfl).trans (cg (lE rfl rfl) (cg (lE rfl rfl) rfl (cg rfl rfl rfl)) rfl)
/-! 5: phrasebook/role.few -/
theorem e5_0 (v0 : Int) (v1 : Int) (v2 : Int) (v3 : D) (v4 : D) (v5 : D) (v6 : D) : f5_0 (.int v0) (.int v1) (.int v2) v3 v4 v5 v6 =
  cond (decide (v0 < v1)) (
 .row [.int 1, (.int 0)]) (
 cond (decide (v2 < v0)) (
 .row [.int 1, (.int v2)]) (
 f5_1 (.int v0) (.int 0) v3 v4 v5 v6)) :=
  (g_walk lt (T := t5) (t := t5p0) rfl rfl).trans (cg (lE rfl rfl) rfl (cg (lE rfl rfl) rfl rfl))
theorem e5_1 (v0 : Int) (v1 : Int) (v2 : D) (v3 : D) (v4 : D) (v5 : D) : f5_1 (.int v0) (.int v1) v2 v3 v4 v5 =
  cond (decide (v1 < v0)) (
 cond (decide (v1 < 0)) (
 .row []) (
 cond (decide (v1 < (len v3 : Int))) (
 cond (decide ((sl (f1_0 (cl v3 v1 0)) 0).toInt = 1)) (
 cond ((sl (f1_0 (cl v3 v1 0)) 1).toBool) (
 cond (decide ((sl (f4_0 v3 (cl v3 v1 0)) 0).toInt = 1)) (
 cond (decide ((sl (f4_0 v3 (cl v3 v1 0)) 1).toInt < v1)) (
 .row [.int 1, (.int v1)]) (
 cond (decide ((cl v3 v1 2).toInt < 0)) (
 .row [.int 1, (.int v1)]) (
 cond (decide (1048576 < (cl v3 v1 2).toInt)) (
 .row [.int 1, (.int v1)]) (
 f5_1 (.int v0) (.int (IntKind.wrap .i64 (v1 + 1))) v2 v3 v4 v5)))) (
 .row [])) (
 .row [.int 1, (.int v1)])) (
 .row [])) (
 .row []))) (
 .row [.int 1, (.int (-1))]) :=
  (g_walk lt (T := t5) (t := t5p1) rfl rfl).trans (cg (lE rfl rfl) (cg (lE rfl rfl) rfl (cg (lE rfl rfl) (cg (qE rfl rfl) (cg rfl (cg (qE rfl rfl) (cg (lE rfl rfl) rfl (cg (lE rfl rfl) rfl (cg (lE rfl rfl) rfl rfl))) rfl) rfl) rfl) rfl)) rfl)
/-! 6: slices.Index[[]phrasebook/api.Step,phrasebook/api.Step] -/
theorem e6_0 (v0 : D) (v1 : D) (v2 : D) (v3 : Int) (v4 : D) (v5 : D) (v6 : D) (v7 : Int) (v8 : Int) (v9 : Int) : f6_0 v0 v1 v2 (.int v3) v4 v5 v6 (.int v7) (.int v8) (.int v9) =
  f6_1 v0 (.int 0) v1 v2 (.int v3) v4 v5 v6 (.int v7) (.int v8) (.int v9) :=
  (g_walk lt (T := t6) (t := t6p0) rfl rfl).trans rfl
theorem e6_1 (v0 : D) (v1 : Int) (v2 : D) (v3 : D) (v4 : Int) (v5 : D) (v6 : D) (v7 : D) (v8 : Int) (v9 : Int) (v10 : Int) : f6_1 v0 (.int v1) v2 v3 (.int v4) v5 v6 v7 (.int v8) (.int v9) (.int v10) =
  cond (decide (v1 < (len v0 : Int))) (
 cond (decide (v1 < 0)) (
 .row []) (
 cond ((D.strEq v2 (cl v0 v1 0) && (D.strEq v3 (cl v0 v1 1) && (decide (v4 = (cl v0 v1 2).toInt) && (D.strEq v5 (cl v0 v1 3) && (D.strEq v6 (cl v0 v1 4) && (D.strEq v7 (cl v0 v1 5) && (decide (v8 = (cl v0 v1 6).toInt) && (decide (v9 = (cl v0 v1 7).toInt) && decide (v10 = (cl v0 v1 8).toInt)))))))))) (
 .row [.int 1, (.int v1)]) (
 f6_1 v0 (.int (IntKind.wrap .i64 (v1 + 1))) v2 v3 (.int v4) v5 v6 v7 (.int v8) (.int v9) (.int v10)))) (
 .row [.int 1, (.int (-1))]) :=
  (g_walk lt (T := t6) (t := t6p1) rfl rfl).trans (cg (lE rfl rfl) (cg (lE rfl rfl) rfl (cg (aE rfl (aE rfl (aE (qE rfl rfl) (aE rfl (aE rfl (aE rfl (aE (qE rfl rfl) (aE (qE rfl rfl) (qE rfl rfl))))))))) rfl rfl)) rfl)
/-! 7: phrasebook/role.few -/
theorem e7_0 (v0 : Int) (v1 : Int) (v2 : Int) (v3 : D) (v4 : D) (v5 : D) (v6 : D) : f7_0 (.int v0) (.int v1) (.int v2) v3 v4 v5 v6 =
  cond (decide (v0 < v1)) (
 .row [.int 1, (.int 0)]) (
 cond (decide (v2 < v0)) (
 .row [.int 1, (.int v2)]) (
 f7_1 (.int v0) (.int 0) v3 v4 v5 v6)) :=
  (g_walk lt (T := t7) (t := t7p0) rfl rfl).trans (cg (lE rfl rfl) rfl (cg (lE rfl rfl) rfl rfl))
theorem e7_1 (v0 : Int) (v1 : Int) (v2 : D) (v3 : D) (v4 : D) (v5 : D) {F0 : D} {F1 : D} {F2 : D} (h0 : f6_0 (sb v5 0 v1) (cl v5 v1 0) (cl v5 v1 1) (cl v5 v1 2) (cl v5 v1 3) (cl v5 v1 4) (cl v5 v1 5) (cl v5 v1 6) (cl v5 v1 7) (cl v5 v1 8) = F0) (h1 : f2_0 v4 (cl v5 v1 5) = F1) (h2 : f4_0 v3 (cl v5 v1 0) = F2) : f7_1 (.int v0) (.int v1) v2 v3 v4 v5 =
  cond (decide (v1 < v0)) (
 cond (decide (v1 < 0)) (
 .row []) (
 cond (decide (v1 < (len v5 : Int))) (
 cond (decide ((cl v5 v1 2).toInt = 1)) (
 cond (decide ((sl F2 0).toInt = 1)) (
 cond (decide ((sl F1 0).toInt = 1)) (
 cond (decide ((sl F2 1).toInt < 0)) (
 .row [.int 1, (.int v1)]) (
 cond (decide ((sl (f4_0 v3 (cl v5 v1 1)) 0).toInt = 1)) (
 cond (decide ((sl (f4_0 v3 (cl v5 v1 1)) 1).toInt < 0)) (
 .row [.int 1, (.int v1)]) (
 cond (decide ((len v5 : Int) < v1)) (
 .row []) (
 cond (decide ((sl F0 0).toInt = 1)) (
 cond (decide ((sl F0 1).toInt < 0)) (
 cond (decide ((sl F2 1).toInt < (len v3 : Int))) (
 cond (decide ((sl (f1_0 (cl v5 v1 3)) 0).toInt = 1)) (
 cond ((sl (f1_0 (cl v5 v1 3)) 1).toBool) (
 cond (decide ((sl (f1_0 (cl v5 v1 4)) 0).toInt = 1)) (
 cond ((sl (f1_0 (cl v5 v1 4)) 1).toBool) (
 cond (D.strEq (cl v5 v1 4) v2) (
 .row [.int 1, (.int v1)]) (
 cond (eqC (cl v5 v1 5) 0 0) (
 cond (decide ((cl v5 v1 6).toInt = 0)) (
 cond (decide ((cl v5 v1 7).toInt = 0)) (
 cond (decide ((cl v5 v1 8).toInt = 0)) (
 f7_1 (.int v0) (.int (IntKind.wrap .i64 (v1 + 1))) v2 v3 v4 v5) (
 .row [.int 1, (.int v1)])) (
 .row [.int 1, (.int v1)])) (
 .row [.int 1, (.int v1)])) (
 cond (decide ((sl F1 1).toInt < 0)) (
 .row [.int 1, (.int v1)]) (
 cond (decide ((cl v5 v1 6).toInt < 0)) (
 .row [.int 1, (.int v1)]) (
 cond (decide ((cl v5 v1 7).toInt < (cl v5 v1 6).toInt)) (
 .row [.int 1, (.int v1)]) (
 cond (decide ((cl v5 v1 8).toInt < (-1000))) (
 .row [.int 1, (.int v1)]) (
 cond (decide (1000 < (cl v5 v1 8).toInt)) (
 .row [.int 1, (.int v1)]) (
 cond (decide ((sl F1 1).toInt < (len v4 : Int))) (
 cond (decide ((cl v4 (sl F1 1).toInt 1).toInt < (cl v5 v1 7).toInt)) (
 .row [.int 1, (.int v1)]) (
 cond (decide ((IntKind.wrap .i64 ((cl v5 v1 6).toInt + (cl v5 v1 8).toInt)) < 0)) (
 .row [.int 1, (.int v1)]) (
 cond (decide ((cl v4 (sl F1 1).toInt 1).toInt < (IntKind.wrap .i64 ((cl v5 v1 7).toInt + (cl v5 v1 8).toInt)))) (
 .row [.int 1, (.int v1)]) (
 f7_1 (.int v0) (.int (IntKind.wrap .i64 (v1 + 1))) v2 v3 v4 v5)))) (
 .row []))))))))) (
 .row [.int 1, (.int v1)])) (
 .row [])) (
 .row [.int 1, (.int v1)])) (
 .row [])) (
 .row [])) (
 .row [.int 1, (.int v1)])) (
 .row [])))) (
 .row []))) (
 .row [])) (
 .row [])) (
 cond (decide ((cl v5 v1 2).toInt = 2)) (
 cond (decide ((sl F2 0).toInt = 1)) (
 cond (decide ((sl F1 0).toInt = 1)) (
 cond (decide ((sl F2 1).toInt < 0)) (
 .row [.int 1, (.int v1)]) (
 cond (decide ((sl (f4_0 v3 (cl v5 v1 1)) 0).toInt = 1)) (
 cond (decide ((sl (f4_0 v3 (cl v5 v1 1)) 1).toInt < 0)) (
 .row [.int 1, (.int v1)]) (
 cond (decide ((len v5 : Int) < v1)) (
 .row []) (
 cond (decide ((sl F0 0).toInt = 1)) (
 cond (decide ((sl F0 1).toInt < 0)) (
 cond (decide ((sl F2 1).toInt < (len v3 : Int))) (
 cond (decide ((sl (f1_0 (cl v5 v1 3)) 0).toInt = 1)) (
 cond ((sl (f1_0 (cl v5 v1 3)) 1).toBool) (
 cond (decide ((sl (f1_0 (cl v5 v1 4)) 0).toInt = 1)) (
 cond ((sl (f1_0 (cl v5 v1 4)) 1).toBool) (
 cond (D.strEq (cl v5 v1 4) v2) (
 .row [.int 1, (.int v1)]) (
 cond (eqC (cl v5 v1 5) 0 0) (
 cond (decide ((cl v5 v1 6).toInt = 0)) (
 cond (decide ((cl v5 v1 7).toInt = 0)) (
 cond (decide ((cl v5 v1 8).toInt = 0)) (
 f7_1 (.int v0) (.int (IntKind.wrap .i64 (v1 + 1))) v2 v3 v4 v5) (
 .row [.int 1, (.int v1)])) (
 .row [.int 1, (.int v1)])) (
 .row [.int 1, (.int v1)])) (
 cond (decide ((sl F1 1).toInt < 0)) (
 .row [.int 1, (.int v1)]) (
 cond (decide ((cl v5 v1 6).toInt < 0)) (
 .row [.int 1, (.int v1)]) (
 cond (decide ((cl v5 v1 7).toInt < (cl v5 v1 6).toInt)) (
 .row [.int 1, (.int v1)]) (
 cond (decide ((cl v5 v1 8).toInt < (-1000))) (
 .row [.int 1, (.int v1)]) (
 cond (decide (1000 < (cl v5 v1 8).toInt)) (
 .row [.int 1, (.int v1)]) (
 cond (decide ((sl F1 1).toInt < (len v4 : Int))) (
 cond (decide ((cl v4 (sl F1 1).toInt 1).toInt < (cl v5 v1 7).toInt)) (
 .row [.int 1, (.int v1)]) (
 cond (decide ((IntKind.wrap .i64 ((cl v5 v1 6).toInt + (cl v5 v1 8).toInt)) < 0)) (
 .row [.int 1, (.int v1)]) (
 cond (decide ((cl v4 (sl F1 1).toInt 1).toInt < (IntKind.wrap .i64 ((cl v5 v1 7).toInt + (cl v5 v1 8).toInt)))) (
 .row [.int 1, (.int v1)]) (
 f7_1 (.int v0) (.int (IntKind.wrap .i64 (v1 + 1))) v2 v3 v4 v5)))) (
 .row []))))))))) (
 .row [.int 1, (.int v1)])) (
 .row [])) (
 .row [.int 1, (.int v1)])) (
 .row [])) (
 .row [])) (
 .row [.int 1, (.int v1)])) (
 .row [])))) (
 .row []))) (
 .row [])) (
 .row [])) (
 cond (decide ((cl v5 v1 2).toInt = 3)) (
 cond (decide ((sl F2 0).toInt = 1)) (
 cond (decide ((sl F1 0).toInt = 1)) (
 cond (decide ((sl F2 1).toInt < 0)) (
 .row [.int 1, (.int v1)]) (
 cond (decide ((sl (f4_0 v3 (cl v5 v1 1)) 0).toInt = 1)) (
 cond (decide ((sl (f4_0 v3 (cl v5 v1 1)) 1).toInt < 0)) (
 .row [.int 1, (.int v1)]) (
 cond (decide ((len v5 : Int) < v1)) (
 .row []) (
 cond (decide ((sl F0 0).toInt = 1)) (
 cond (decide ((sl F0 1).toInt < 0)) (
 cond (decide ((sl F2 1).toInt < (len v3 : Int))) (
 cond (decide (0 < (cl v3 (sl F2 1).toInt 2).toInt)) (
 cond (decide ((slen (cl v5 v1 3) : Int) < 4611686018427387904)) (
 cond (decide ((slen (cl v5 v1 4) : Int) < 4611686018427387904)) (
 cond (eqC (sCat (cl v5 v1 3) (cl v5 v1 4)) 0 0) (
 cond (eqC (cl v5 v1 5) 0 0) (
 cond (decide ((cl v5 v1 6).toInt = 0)) (
 cond (decide ((cl v5 v1 7).toInt = 0)) (
 cond (decide ((cl v5 v1 8).toInt = 0)) (
 f7_1 (.int v0) (.int (IntKind.wrap .i64 (v1 + 1))) v2 v3 v4 v5) (
 .row [.int 1, (.int v1)])) (
 .row [.int 1, (.int v1)])) (
 .row [.int 1, (.int v1)])) (
 cond (decide ((sl F1 1).toInt < 0)) (
 .row [.int 1, (.int v1)]) (
 cond (decide ((cl v5 v1 6).toInt < 0)) (
 .row [.int 1, (.int v1)]) (
 cond (decide ((cl v5 v1 7).toInt < (cl v5 v1 6).toInt)) (
 .row [.int 1, (.int v1)]) (
 cond (decide ((cl v5 v1 8).toInt < (-1000))) (
 .row [.int 1, (.int v1)]) (
 cond (decide (1000 < (cl v5 v1 8).toInt)) (
 .row [.int 1, (.int v1)]) (
 cond (decide ((sl F1 1).toInt < (len v4 : Int))) (
 cond (decide ((cl v4 (sl F1 1).toInt 1).toInt < (cl v5 v1 7).toInt)) (
 .row [.int 1, (.int v1)]) (
 cond (decide ((IntKind.wrap .i64 ((cl v5 v1 6).toInt + (cl v5 v1 8).toInt)) < 0)) (
 .row [.int 1, (.int v1)]) (
 cond (decide ((cl v4 (sl F1 1).toInt 1).toInt < (IntKind.wrap .i64 ((cl v5 v1 7).toInt + (cl v5 v1 8).toInt)))) (
 .row [.int 1, (.int v1)]) (
 f7_1 (.int v0) (.int (IntKind.wrap .i64 (v1 + 1))) v2 v3 v4 v5)))) (
 .row [])))))))) (
 .row [.int 1, (.int v1)])) (
 .row [])) (
 .row [])) (
 .row [.int 1, (.int v1)])) (
 .row [])) (
 .row [.int 1, (.int v1)])) (
 .row [])))) (
 .row []))) (
 .row [])) (
 .row [])) (
 cond (decide ((cl v5 v1 2).toInt = 4)) (
 cond (decide ((sl F2 0).toInt = 1)) (
 cond (decide ((sl F1 0).toInt = 1)) (
 cond (decide ((sl F2 1).toInt < 0)) (
 .row [.int 1, (.int v1)]) (
 cond (decide ((sl (f4_0 v3 (cl v5 v1 1)) 0).toInt = 1)) (
 cond (decide ((sl (f4_0 v3 (cl v5 v1 1)) 1).toInt < 0)) (
 .row [.int 1, (.int v1)]) (
 cond (decide ((len v5 : Int) < v1)) (
 .row []) (
 cond (decide ((sl F0 0).toInt = 1)) (
 cond (decide ((sl F0 1).toInt < 0)) (
 cond (decide ((sl F2 1).toInt < (len v3 : Int))) (
 cond (decide ((slen (cl v5 v1 3) : Int) < 4611686018427387904)) (
 cond (decide ((slen (cl v5 v1 4) : Int) < 4611686018427387904)) (
 cond (eqC (sCat (cl v5 v1 3) (cl v5 v1 4)) 0 0) (
 cond (eqC (cl v5 v1 5) 0 0) (
 cond (decide ((cl v5 v1 6).toInt = 0)) (
 cond (decide ((cl v5 v1 7).toInt = 0)) (
 cond (decide ((cl v5 v1 8).toInt = 0)) (
 f7_1 (.int v0) (.int (IntKind.wrap .i64 (v1 + 1))) v2 v3 v4 v5) (
 .row [.int 1, (.int v1)])) (
 .row [.int 1, (.int v1)])) (
 .row [.int 1, (.int v1)])) (
 cond (decide ((sl F1 1).toInt < 0)) (
 .row [.int 1, (.int v1)]) (
 cond (decide ((cl v5 v1 6).toInt < 0)) (
 .row [.int 1, (.int v1)]) (
 cond (decide ((cl v5 v1 7).toInt < (cl v5 v1 6).toInt)) (
 .row [.int 1, (.int v1)]) (
 cond (decide ((cl v5 v1 8).toInt < (-1000))) (
 .row [.int 1, (.int v1)]) (
 cond (decide (1000 < (cl v5 v1 8).toInt)) (
 .row [.int 1, (.int v1)]) (
 cond (decide ((sl F1 1).toInt < (len v4 : Int))) (
 cond (decide ((cl v4 (sl F1 1).toInt 1).toInt < (cl v5 v1 7).toInt)) (
 .row [.int 1, (.int v1)]) (
 cond (decide ((IntKind.wrap .i64 ((cl v5 v1 6).toInt + (cl v5 v1 8).toInt)) < 0)) (
 .row [.int 1, (.int v1)]) (
 cond (decide ((cl v4 (sl F1 1).toInt 1).toInt < (IntKind.wrap .i64 ((cl v5 v1 7).toInt + (cl v5 v1 8).toInt)))) (
 .row [.int 1, (.int v1)]) (
 f7_1 (.int v0) (.int (IntKind.wrap .i64 (v1 + 1))) v2 v3 v4 v5)))) (
 .row [])))))))) (
 .row [.int 1, (.int v1)])) (
 .row [])) (
 .row [])) (
 .row [])) (
 .row [.int 1, (.int v1)])) (
 .row [])))) (
 .row []))) (
 .row [])) (
 .row [])) (
 cond (decide ((sl F2 0).toInt = 1)) (
 cond (decide ((sl F1 0).toInt = 1)) (
 .row [.int 1, (.int v1)]) (
 .row [])) (
 .row [])))))) (
 .row []))) (
 .row [.int 1, (.int (-1))]) := by
  subst h0; subst h1; subst h2; exact (g_walk lt (T := t7) (t := t7p1) rfl rfl).trans (cg (lE rfl rfl) (cg (lE rfl rfl) rfl (cg (lE rfl rfl) (cg (qE rfl rfl) (cg (qE rfl rfl) (cg (qE rfl rfl) (cg (lE rfl rfl) rfl (cg (qE rfl rfl) (cg (lE rfl rfl) rfl (cg (lE rfl rfl) rfl (cg (qE rfl rfl) (cg (lE rfl rfl) (cg (lE rfl rfl) (cg (qE rfl rfl) (cg rfl (cg (qE rfl rfl) (cg rfl (cg rfl rfl (cg rfl (cg (qE rfl rfl) (cg (qE rfl rfl) (cg (qE rfl rfl) rfl rfl) rfl) rfl) (cg (lE rfl rfl) rfl (cg (lE rfl rfl) rfl (cg (lE rfl rfl) rfl (cg (lE rfl rfl) rfl (cg (lE rfl rfl) rfl (cg (lE rfl rfl) (cg (lE rfl rfl) rfl (cg (lE rfl rfl) rfl (cg (lE rfl rfl) rfl rfl))) rfl)))))))) rfl) rfl) rfl) rfl) rfl) rfl) rfl))) rfl)) rfl) rfl) (cg (qE rfl rfl) (cg (qE rfl rfl) (cg (qE rfl rfl) (cg (lE rfl rfl) rfl (cg (qE rfl rfl) (cg (lE rfl rfl) rfl (cg (lE rfl rfl) rfl (cg (qE rfl rfl) (cg (lE rfl rfl) (cg (lE rfl rfl) (cg (qE rfl rfl) (cg rfl (cg (qE rfl rfl) (cg rfl (cg rfl rfl (cg rfl (cg (qE rfl rfl) (cg (qE rfl rfl) (cg (qE rfl rfl) rfl rfl) rfl) rfl) (cg (lE rfl rfl) rfl (cg (lE rfl rfl) rfl (cg (lE rfl rfl) rfl (cg (lE rfl rfl) rfl (cg (lE rfl rfl) rfl (cg (lE rfl rfl) (cg (lE rfl rfl) rfl (cg (lE rfl rfl) rfl (cg (lE rfl rfl) rfl rfl))) rfl)))))))) rfl) rfl) rfl) rfl) rfl) rfl) rfl))) rfl)) rfl) rfl) (cg (qE rfl rfl) (cg (qE rfl rfl) (cg (qE rfl rfl) (cg (lE rfl rfl) rfl (cg (qE rfl rfl) (cg (lE rfl rfl) rfl (cg (lE rfl rfl) rfl (cg (qE rfl rfl) (cg (lE rfl rfl) (cg (lE rfl rfl) (cg (lE rfl rfl) (cg (lE rfl rfl) (cg (lE rfl rfl) (cg rfl (cg rfl (cg (qE rfl rfl) (cg (qE rfl rfl) (cg (qE rfl rfl) rfl rfl) rfl) rfl) (cg (lE rfl rfl) rfl (cg (lE rfl rfl) rfl (cg (lE rfl rfl) rfl (cg (lE rfl rfl) rfl (cg (lE rfl rfl) rfl (cg (lE rfl rfl) (cg (lE rfl rfl) rfl (cg (lE rfl rfl) rfl (cg (lE rfl rfl) rfl rfl))) rfl))))))) rfl) rfl) rfl) rfl) rfl) rfl) rfl))) rfl)) rfl) rfl) (cg (qE rfl rfl) (cg (qE rfl rfl) (cg (qE rfl rfl) (cg (lE rfl rfl) rfl (cg (qE rfl rfl) (cg (lE rfl rfl) rfl (cg (lE rfl rfl) rfl (cg (qE rfl rfl) (cg (lE rfl rfl) (cg (lE rfl rfl) (cg (lE rfl rfl) (cg (lE rfl rfl) (cg rfl (cg rfl (cg (qE rfl rfl) (cg (qE rfl rfl) (cg (qE rfl rfl) rfl rfl) rfl) rfl) (cg (lE rfl rfl) rfl (cg (lE rfl rfl) rfl (cg (lE rfl rfl) rfl (cg (lE rfl rfl) rfl (cg (lE rfl rfl) rfl (cg (lE rfl rfl) (cg (lE rfl rfl) rfl (cg (lE rfl rfl) rfl (cg (lE rfl rfl) rfl rfl))) rfl))))))) rfl) rfl) rfl) rfl) rfl) rfl))) rfl)) rfl) rfl) (cg (qE rfl rfl) (cg (qE rfl rfl) rfl rfl) rfl))))) rfl)) rfl)
/-! 8: slices.IndexFunc[[]phrasebook/api.State,phrasebook/api.State] -/
theorem e8_0 (v0 : D) (v1 : D) : f8_0 v0 v1 =
  f8_1 v0 (.int 0) v1 :=
  (g_walk lt (T := t8) (t := t8p0) rfl rfl).trans rfl
theorem e8_1 (v0 : D) (v1 : Int) (v2 : D) : f8_1 v0 (.int v1) v2 =
  cond (decide (v1 < (len v0 : Int))) (
 cond (decide (v1 < 0)) (
 .row []) (
 cond (D.strEq (cl v0 v1 0) v2) (
 .row [.int 1, (.int v1)]) (
 f8_1 v0 (.int (IntKind.wrap .i64 (v1 + 1))) v2))) (
 .row [.int 1, (.int (-1))]) :=
  (g_walk lt (T := t8) (t := t8p1) rfl rfl).trans (cg (lE rfl rfl) (cg (lE rfl rfl) rfl (cg rfl rfl rfl)) rfl)
/-! 9: slices.IndexFunc[[]phrasebook/api.CounterDef,phrasebook/api.CounterDef] -/
theorem e9_0 (v0 : D) (v1 : D) : f9_0 v0 v1 =
  f9_1 v0 (.int 0) v1 :=
  (g_walk lt (T := t9) (t := t9p0) rfl rfl).trans rfl
theorem e9_1 (v0 : D) (v1 : Int) (v2 : D) : f9_1 v0 (.int v1) v2 =
  cond (decide (v1 < (len v0 : Int))) (
 cond (decide (v1 < 0)) (
 .row []) (
 cond (D.strEq (cl v0 v1 0) v2) (
 .row [.int 1, (.int v1)]) (
 f9_1 v0 (.int (IntKind.wrap .i64 (v1 + 1))) v2))) (
 .row [.int 1, (.int (-1))]) :=
  (g_walk lt (T := t9) (t := t9p1) rfl rfl).trans (cg (lE rfl rfl) (cg (lE rfl rfl) rfl (cg rfl rfl rfl)) rfl)
/-! 10: phrasebook/convert.Check -/
theorem e10_0 (v0 : D) (v1 : D) (v2 : D) (v3 : D) (v4 : D) (v5 : D) (v6 : D) (v7 : D) (v8 : D) (v9 : D) : f10_0 v0 v1 v2 v3 v4 v5 v6 v7 v8 v9 =
  cond (decide ((sl (f1_0 v0) 0).toInt = 1)) (
 cond ((sl (f1_0 v0) 1).toBool) (
 cond (decide ((sl (f3_0 (.int (len v2 : Int)) (.int 0) (.int 4) v0 v1 v2 v3) 0).toInt = 1)) (
 cond (decide ((sl (f3_0 (.int (len v2 : Int)) (.int 0) (.int 4) v0 v1 v2 v3) 1).toInt < 0)) (
 cond (decide ((sl (f5_0 (.int (len v1 : Int)) (.int 1) (.int 24) v0 v1 v2 v3) 0).toInt = 1)) (
 cond (decide ((sl (f5_0 (.int (len v1 : Int)) (.int 1) (.int 24) v0 v1 v2 v3) 1).toInt < 0)) (
 cond (decide ((sl (f7_0 (.int (len v3 : Int)) (.int 0) (.int 80) v0 v1 v2 v3) 0).toInt = 1)) (
 cond (decide ((sl (f7_0 (.int (len v3 : Int)) (.int 0) (.int 80) v0 v1 v2 v3) 1).toInt < 0)) (
 cond (decide ((sl (f1_0 v4) 0).toInt = 1)) (
 cond ((sl (f1_0 v4) 1).toBool) (
 cond (decide ((sl (f3_0 (.int (len v6 : Int)) (.int 0) (.int 4) v4 v5 v6 v7) 0).toInt = 1)) (
 cond (decide ((sl (f3_0 (.int (len v6 : Int)) (.int 0) (.int 4) v4 v5 v6 v7) 1).toInt < 0)) (
 cond (decide ((sl (f5_0 (.int (len v5 : Int)) (.int 1) (.int 24) v4 v5 v6 v7) 0).toInt = 1)) (
 cond (decide ((sl (f5_0 (.int (len v5 : Int)) (.int 1) (.int 24) v4 v5 v6 v7) 1).toInt < 0)) (
 cond (decide ((sl (f7_0 (.int (len v7 : Int)) (.int 0) (.int 80) v4 v5 v6 v7) 0).toInt = 1)) (
 cond (decide ((sl (f7_0 (.int (len v7 : Int)) (.int 0) (.int 80) v4 v5 v6 v7) 1).toInt < 0)) (
 cond (decide (24 < (len v8 : Int))) (
 .row [.int 1, (.int 24), (.int 490)]) (
 f10_1 v0 v1 v2 v3 v4 v5 v6 v7 v8 v9 (.bool (decide (24 < (len v8 : Int)))) (.int 0) emptyD)) (
 .row [.int 1, (.int 0), (.int 2)])) (
 .row [])) (
 .row [.int 1, (.int 0), (.int 2)])) (
 .row [])) (
 .row [.int 1, (.int 0), (.int 2)])) (
 .row [])) (
 .row [.int 1, (.int 0), (.int 2)])) (
 .row [])) (
 .row [.int 1, (.int 0), (.int 2)])) (
 .row [])) (
 .row [.int 1, (.int 0), (.int 2)])) (
 .row [])) (
 .row [.int 1, (.int 0), (.int 2)])) (
 .row [])) (
 .row [.int 1, (.int 0), (.int 2)])) (
 .row []) :=
  (g_walk lt (T := t10) (t := t10p0) rfl rfl).trans (cg (qE rfl rfl) (cg rfl (cg (qE rfl rfl) (cg (lE rfl rfl) (cg (qE rfl rfl) (cg (lE rfl rfl) (cg (qE rfl rfl) (cg (lE rfl rfl) (cg (qE rfl rfl) (cg rfl (cg (qE rfl rfl) (cg (lE rfl rfl) (cg (qE rfl rfl) (cg (lE rfl rfl) (cg (qE rfl rfl) (cg (lE rfl rfl) (cg (lE rfl rfl) rfl rfl) rfl) rfl) rfl) rfl) rfl) rfl) rfl) rfl) rfl) rfl) rfl) rfl) rfl) rfl) rfl) rfl)
theorem e10_1 (v0 : D) (v1 : D) (v2 : D) (v3 : D) (v4 : D) (v5 : D) (v6 : D) (v7 : D) (v8 : D) (v9 : D) (v10 : Bool) (v11 : Int) (v12 : D) : f10_1 v0 v1 v2 v3 v4 v5 v6 v7 v8 v9 (.bool v10) (.int v11) v12 =
  cond (decide (v11 < (len v8 : Int))) (
 cond (decide (v11 < 0)) (
 .row []) (
 cond (decide ((sl (f8_0 v1 (cl v8 v11 0)) 0).toInt = 1)) (
 cond (decide ((sl (f8_0 v1 (cl v8 v11 0)) 1).toInt < 0)) (
 .row [.int 1, (.int v11), (.int 490)]) (
 cond (decide ((sl (f8_0 v5 (cl v8 v11 1)) 0).toInt = 1)) (
 cond (decide ((sl (f8_0 v5 (cl v8 v11 1)) 1).toInt < 0)) (
 .row [.int 1, (.int v11), (.int 490)]) (
 cond (decide ((mIx [.str] v12 (.row [(cl v8 v11 0)])) < 0)) (
 f10_1 v0 v1 v2 v3 v4 v5 v6 v7 v8 v9 (.bool v10) (.int (IntKind.wrap .i64 (v11 + 1))) (ad v12 (.row [(cl v8 v11 0), (.bool true)]))) (
 cond ((cl v12 (mIx [.str] v12 (.row [(cl v8 v11 0)])) 1).toBool) (
 .row [.int 1, (.int v11), (.int 490)]) (
 f10_1 v0 v1 v2 v3 v4 v5 v6 v7 v8 v9 (.bool v10) (.int (IntKind.wrap .i64 (v11 + 1))) (upd v12 (mIx [.str] v12 (.row [(cl v8 v11 0)])) 1 (.bool true)))))) (
 .row []))) (
 .row []))) (
 cond (decide (4 < (len v9 : Int))) (
 .row [.int 1, (.int 4), (.int 491)]) (
 f10_2 v0 v1 v2 v3 v4 v5 v6 v7 v8 v9 (.bool v10) (.int v11) (.bool (decide (v11 < (len v8 : Int)))) (.bool (decide (4 < (len v9 : Int)))) (.int 0) emptyD)) :=
  (g_walk lt (T := t10) (t := t10p1) rfl rfl).trans (cg (lE rfl rfl) (cg (lE rfl rfl) rfl (cg (qE rfl rfl) (cg (lE rfl rfl) rfl (cg (qE rfl rfl) (cg (lE rfl rfl) rfl (cg (lE rfl rfl) rfl (cg rfl rfl rfl))) rfl)) rfl)) (cg (lE rfl rfl) rfl rfl))
theorem e10_2 (v0 : D) (v1 : D) (v2 : D) (v3 : D) (v4 : D) (v5 : D) (v6 : D) (v7 : D) (v8 : D) (v9 : D) (v10 : Bool) (v11 : Int) (v12 : Bool) (v13 : Bool) (v14 : Int) (v15 : D) : f10_2 v0 v1 v2 v3 v4 v5 v6 v7 v8 v9 (.bool v10) (.int v11) (.bool v12) (.bool v13) (.int v14) v15 =
  cond (decide (v14 < (len v9 : Int))) (
 cond (decide (v14 < 0)) (
 .row []) (
 cond (decide ((sl (f9_0 v6 (cl v9 v14 0)) 0).toInt = 1)) (
 cond (decide ((sl (f9_0 v6 (cl v9 v14 0)) 1).toInt < 0)) (
 .row [.int 1, (.int v14), (.int 491)]) (
 cond (eqC (cl v9 v14 1) 0 0) (
 cond (decide ((mIx [.str] v15 (.row [(cl v9 v14 0)])) < 0)) (
 cond (decide ((cl v9 v14 2).toInt < (IntKind.wrap .i64 (0 - (cl v9 v14 2).toInt)))) (
 cond (decide (1000 < (IntKind.wrap .i64 (0 - (cl v9 v14 2).toInt)))) (
 .row [.int 1, (.int v14), (.int 491)]) (
 cond (decide ((cl v9 v14 2).toInt < (-1000))) (
 .row [.int 1, (.int v14), (.int 491)]) (
 f10_2 v0 v1 v2 v3 v4 v5 v6 v7 v8 v9 (.bool v10) (.int v11) (.bool v12) (.bool v13) (.int (IntKind.wrap .i64 (v14 + 1))) (ad v15 (.row [(cl v9 v14 0), (.bool true)]))))) (
 cond (decide (1000 < (cl v9 v14 2).toInt)) (
 .row [.int 1, (.int v14), (.int 491)]) (
 cond (decide ((cl v9 v14 2).toInt < (-1000))) (
 .row [.int 1, (.int v14), (.int 491)]) (
 f10_2 v0 v1 v2 v3 v4 v5 v6 v7 v8 v9 (.bool v10) (.int v11) (.bool v12) (.bool v13) (.int (IntKind.wrap .i64 (v14 + 1))) (ad v15 (.row [(cl v9 v14 0), (.bool true)])))))) (
 cond ((cl v15 (mIx [.str] v15 (.row [(cl v9 v14 0)])) 1).toBool) (
 .row [.int 1, (.int v14), (.int 491)]) (
 cond (decide ((cl v9 v14 2).toInt < (IntKind.wrap .i64 (0 - (cl v9 v14 2).toInt)))) (
 cond (decide (1000 < (IntKind.wrap .i64 (0 - (cl v9 v14 2).toInt)))) (
 .row [.int 1, (.int v14), (.int 491)]) (
 cond (decide ((cl v9 v14 2).toInt < (-1000))) (
 .row [.int 1, (.int v14), (.int 491)]) (
 f10_2 v0 v1 v2 v3 v4 v5 v6 v7 v8 v9 (.bool v10) (.int v11) (.bool v12) (.bool v13) (.int (IntKind.wrap .i64 (v14 + 1))) (upd v15 (mIx [.str] v15 (.row [(cl v9 v14 0)])) 1 (.bool true))))) (
 cond (decide (1000 < (cl v9 v14 2).toInt)) (
 .row [.int 1, (.int v14), (.int 491)]) (
 cond (decide ((cl v9 v14 2).toInt < (-1000))) (
 .row [.int 1, (.int v14), (.int 491)]) (
 f10_2 v0 v1 v2 v3 v4 v5 v6 v7 v8 v9 (.bool v10) (.int v11) (.bool v12) (.bool v13) (.int (IntKind.wrap .i64 (v14 + 1))) (upd v15 (mIx [.str] v15 (.row [(cl v9 v14 0)])) 1 (.bool true)))))))) (
 cond (decide ((sl (f9_0 v2 (cl v9 v14 1)) 0).toInt = 1)) (
 cond (decide ((sl (f9_0 v2 (cl v9 v14 1)) 1).toInt < 0)) (
 .row [.int 1, (.int v14), (.int 491)]) (
 cond (decide ((mIx [.str] v15 (.row [(cl v9 v14 0)])) < 0)) (
 cond (decide ((cl v9 v14 2).toInt < (IntKind.wrap .i64 (0 - (cl v9 v14 2).toInt)))) (
 cond (decide (1000 < (IntKind.wrap .i64 (0 - (cl v9 v14 2).toInt)))) (
 .row [.int 1, (.int v14), (.int 491)]) (
 cond (decide ((cl v9 v14 2).toInt < (-1000))) (
 .row [.int 1, (.int v14), (.int 491)]) (
 f10_2 v0 v1 v2 v3 v4 v5 v6 v7 v8 v9 (.bool v10) (.int v11) (.bool v12) (.bool v13) (.int (IntKind.wrap .i64 (v14 + 1))) (ad v15 (.row [(cl v9 v14 0), (.bool true)]))))) (
 cond (decide (1000 < (cl v9 v14 2).toInt)) (
 .row [.int 1, (.int v14), (.int 491)]) (
 cond (decide ((cl v9 v14 2).toInt < (-1000))) (
 .row [.int 1, (.int v14), (.int 491)]) (
 f10_2 v0 v1 v2 v3 v4 v5 v6 v7 v8 v9 (.bool v10) (.int v11) (.bool v12) (.bool v13) (.int (IntKind.wrap .i64 (v14 + 1))) (ad v15 (.row [(cl v9 v14 0), (.bool true)])))))) (
 cond ((cl v15 (mIx [.str] v15 (.row [(cl v9 v14 0)])) 1).toBool) (
 .row [.int 1, (.int v14), (.int 491)]) (
 cond (decide ((cl v9 v14 2).toInt < (IntKind.wrap .i64 (0 - (cl v9 v14 2).toInt)))) (
 cond (decide (1000 < (IntKind.wrap .i64 (0 - (cl v9 v14 2).toInt)))) (
 .row [.int 1, (.int v14), (.int 491)]) (
 cond (decide ((cl v9 v14 2).toInt < (-1000))) (
 .row [.int 1, (.int v14), (.int 491)]) (
 f10_2 v0 v1 v2 v3 v4 v5 v6 v7 v8 v9 (.bool v10) (.int v11) (.bool v12) (.bool v13) (.int (IntKind.wrap .i64 (v14 + 1))) (upd v15 (mIx [.str] v15 (.row [(cl v9 v14 0)])) 1 (.bool true))))) (
 cond (decide (1000 < (cl v9 v14 2).toInt)) (
 .row [.int 1, (.int v14), (.int 491)]) (
 cond (decide ((cl v9 v14 2).toInt < (-1000))) (
 .row [.int 1, (.int v14), (.int 491)]) (
 f10_2 v0 v1 v2 v3 v4 v5 v6 v7 v8 v9 (.bool v10) (.int v11) (.bool v12) (.bool v13) (.int (IntKind.wrap .i64 (v14 + 1))) (upd v15 (mIx [.str] v15 (.row [(cl v9 v14 0)])) 1 (.bool true))))))))) (
 .row [])))) (
 .row []))) (
 .row [.int 1, (.int 0), (.int 0)]) :=
  (g_walk lt (T := t10) (t := t10p2) rfl rfl).trans (cg (lE rfl rfl) (cg (lE rfl rfl) rfl (cg (qE rfl rfl) (cg (lE rfl rfl) rfl (cg rfl (cg (lE rfl rfl) (cg (lE rfl rfl) (cg (lE rfl rfl) rfl (cg (lE rfl rfl) rfl rfl)) (cg (lE rfl rfl) rfl (cg (lE rfl rfl) rfl rfl))) (cg rfl rfl (cg (lE rfl rfl) (cg (lE rfl rfl) rfl (cg (lE rfl rfl) rfl rfl)) (cg (lE rfl rfl) rfl (cg (lE rfl rfl) rfl rfl))))) (cg (qE rfl rfl) (cg (lE rfl rfl) rfl (cg (lE rfl rfl) (cg (lE rfl rfl) (cg (lE rfl rfl) rfl (cg (lE rfl rfl) rfl rfl)) (cg (lE rfl rfl) rfl (cg (lE rfl rfl) rfl rfl))) (cg rfl rfl (cg (lE rfl rfl) (cg (lE rfl rfl) rfl (cg (lE rfl rfl) rfl rfl)) (cg (lE rfl rfl) rfl (cg (lE rfl rfl) rfl rfl)))))) rfl))) rfl)) rfl)
/-! 11: phrasebook/phrasebookref28.Name -/
theorem e11_0 (v0 : D) : f11_0 v0 =
  cond (decide ((slen v0 : Int) < 1)) (
 .row [.int 1, (.bool false)]) (
 cond (decide (32 < (slen v0 : Int))) (
 .row [.int 1, (.bool false)]) (
 cond (decide ((sAt v0 0) = 95)) (
 .row [.int 1, (.bool false)]) (
 cond (decide ((sAt v0 0) < 48)) (
 f11_1 v0 (.int 0)) (
 cond (decide (57 < (sAt v0 0))) (
 f11_1 v0 (.int 0)) (
 .row [.int 1, (.bool false)]))))) :=
  (g_walk lt (T := t11) (t := t11p0) rfl rfl).trans (cg (lE rfl rfl) rfl (cg (lE rfl rfl) rfl (cg (qE rfl rfl) rfl (cg (lE rfl rfl) rfl (cg (lE rfl rfl) rfl rfl)))))
theorem e11_1 (v0 : D) (v1 : Int) : f11_1 v0 (.int v1) =
  cond (decide (v1 < (slen v0 : Int))) (
 cond (decide (v1 < 0)) (
 .row []) (
 cond (decide ((sAt v0 v1) < 97)) (
 cond (decide ((sAt v0 v1) < 65)) (
 cond (decide ((sAt v0 v1) < 48)) (
 .row [.int 1, (.bool false)]) (
 cond (decide (57 < (sAt v0 v1))) (
 .row [.int 1, (.bool false)]) (
 f11_1 v0 (.int (IntKind.wrap .i64 (v1 + 1)))))) (
 cond (decide (90 < (sAt v0 v1))) (
 cond (decide ((sAt v0 v1) = 95)) (
 f11_1 v0 (.int (IntKind.wrap .i64 (v1 + 1)))) (
 .row [.int 1, (.bool false)])) (
 f11_1 v0 (.int (IntKind.wrap .i64 (v1 + 1)))))) (
 cond (decide (122 < (sAt v0 v1))) (
 .row [.int 1, (.bool false)]) (
 f11_1 v0 (.int (IntKind.wrap .i64 (v1 + 1))))))) (
 .row [.int 1, (.bool true)]) :=
  (g_walk lt (T := t11) (t := t11p1) rfl rfl).trans (cg (lE rfl rfl) (cg (lE rfl rfl) rfl (cg (lE rfl rfl) (cg (lE rfl rfl) (cg (lE rfl rfl) rfl (cg (lE rfl rfl) rfl rfl)) (cg (lE rfl rfl) (cg (qE rfl rfl) rfl rfl) rfl)) (cg (lE rfl rfl) rfl rfl))) rfl)
/-! 12: phrasebook/phrasebookref28.counter -/
theorem e12_0 (v0 : D) (v1 : D) (v2 : D) (v3 : D) (v4 : D) : f12_0 v0 v1 v2 v3 v4 =
  f12_1 v4 (.int 0) v0 v1 v2 v3 :=
  (g_walk lt (T := t12) (t := t12p0) rfl rfl).trans rfl
theorem e12_1 (v0 : D) (v1 : Int) (v2 : D) (v3 : D) (v4 : D) (v5 : D) : f12_1 v0 (.int v1) v2 v3 v4 v5 =
  cond (decide (v1 < (len v4 : Int))) (
 cond (decide (v1 < 0)) (
 .row []) (
 cond (D.strEq (cl v4 v1 0) v0) (
 .row [.int 1, (.int v1)]) (
 f12_1 v0 (.int (IntKind.wrap .i64 (v1 + 1))) v2 v3 v4 v5))) (
 .row [.int 1, (.int (-1))]) :=
  (g_walk lt (T := t12) (t := t12p1) rfl rfl).trans (cg (lE rfl rfl) (cg (lE rfl rfl) rfl (cg rfl rfl rfl)) rfl)
/-! 13: phrasebook/phrasebookref28.state -/
theorem e13_0 (v0 : D) (v1 : D) (v2 : D) (v3 : D) (v4 : D) : f13_0 v0 v1 v2 v3 v4 =
  f13_1 v4 (.int 0) v0 v1 v2 v3 :=
  (g_walk lt (T := t13) (t := t13p0) rfl rfl).trans rfl
theorem e13_1 (v0 : D) (v1 : Int) (v2 : D) (v3 : D) (v4 : D) (v5 : D) : f13_1 v0 (.int v1) v2 v3 v4 v5 =
  cond (decide (v1 < (len v3 : Int))) (
 cond (decide (v1 < 0)) (
 .row []) (
 cond (D.strEq (cl v3 v1 0) v0) (
 .row [.int 1, (.int v1)]) (
 f13_1 v0 (.int (IntKind.wrap .i64 (v1 + 1))) v2 v3 v4 v5))) (
 .row [.int 1, (.int (-1))]) :=
  (g_walk lt (T := t13) (t := t13p1) rfl rfl).trans (cg (lE rfl rfl) (cg (lE rfl rfl) rfl (cg rfl rfl rfl)) rfl)
/-! 14: phrasebook/phrasebookref28.allowed -/
theorem e14_0 (v0 : D) (v1 : D) (v2 : D) (v3 : D) (v4 : Int) : f14_0 v0 v1 v2 v3 (.int v4) =
  cond (decide (v4 < 0)) (
 .row []) (
 cond (decide (v4 < (len v3 : Int))) (
 cond (decide ((sl (f13_0 v0 v1 v2 v3 (cl v3 v4 0)) 0).toInt = 1)) (
 cond (decide ((sl (f13_0 v0 v1 v2 v3 (cl v3 v4 0)) 1).toInt < 0)) (
 .row [.int 1, (.bool false)]) (
 cond (decide ((sl (f13_0 v0 v1 v2 v3 (cl v3 v4 1)) 0).toInt = 1)) (
 cond (decide ((sl (f13_0 v0 v1 v2 v3 (cl v3 v4 1)) 1).toInt < 0)) (
 .row [.int 1, (.bool false)]) (
 cond (eqC (cl v3 v4 5) 0 0) (
 cond (decide ((cl v3 v4 6).toInt = 0)) (
 cond (decide ((cl v3 v4 7).toInt = 0)) (
 cond (decide ((cl v3 v4 8).toInt = 0)) (
 f14_1 (.int v4) (sl (f13_0 v0 v1 v2 v3 (cl v3 v4 0)) 1) (.int 0) v0 v1 v2 v3 (cl v3 v4 0) (cl v3 v4 1) (cl v3 v4 2) (cl v3 v4 3) (cl v3 v4 4) (cl v3 v4 5) (cl v3 v4 6) (cl v3 v4 7) (cl v3 v4 8)) (
 .row [.int 1, (.bool false)])) (
 .row [.int 1, (.bool false)])) (
 .row [.int 1, (.bool false)])) (
 cond (decide ((sl (f12_0 v0 v1 v2 v3 (cl v3 v4 5)) 0).toInt = 1)) (
 cond (decide ((sl (f12_0 v0 v1 v2 v3 (cl v3 v4 5)) 1).toInt < 0)) (
 .row [.int 1, (.bool false)]) (
 cond (decide ((cl v3 v4 6).toInt < 0)) (
 .row [.int 1, (.bool false)]) (
 cond (decide ((cl v3 v4 7).toInt < (cl v3 v4 6).toInt)) (
 .row [.int 1, (.bool false)]) (
 cond (decide ((sl (f12_0 v0 v1 v2 v3 (cl v3 v4 5)) 1).toInt < (len v2 : Int))) (
 cond (decide ((cl v2 (sl (f12_0 v0 v1 v2 v3 (cl v3 v4 5)) 1).toInt 1).toInt < (cl v3 v4 7).toInt)) (
 .row [.int 1, (.bool false)]) (
 cond (decide ((cl v3 v4 8).toInt < (-1000))) (
 .row [.int 1, (.bool false)]) (
 cond (decide (1000 < (cl v3 v4 8).toInt)) (
 .row [.int 1, (.bool false)]) (
 cond (decide ((IntKind.wrap .i64 ((cl v3 v4 6).toInt + (cl v3 v4 8).toInt)) < 0)) (
 .row [.int 1, (.bool false)]) (
 cond (decide ((cl v2 (sl (f12_0 v0 v1 v2 v3 (cl v3 v4 5)) 1).toInt 1).toInt < (IntKind.wrap .i64 ((cl v3 v4 7).toInt + (cl v3 v4 8).toInt)))) (
 .row [.int 1, (.bool false)]) (
 f14_1 (.int v4) (sl (f13_0 v0 v1 v2 v3 (cl v3 v4 0)) 1) (.int 0) v0 v1 v2 v3 (cl v3 v4 0) (cl v3 v4 1) (cl v3 v4 2) (cl v3 v4 3) (cl v3 v4 4) (cl v3 v4 5) (cl v3 v4 6) (cl v3 v4 7) (cl v3 v4 8))))))) (
 .row []))))) (
 .row [])))) (
 .row []))) (
 .row [])) (
 .row [])) :=
  (g_walk lt (T := t14) (t := t14p0) rfl rfl).trans (cg (lE rfl rfl) rfl (cg (lE rfl rfl) (cg (qE rfl rfl) (cg (lE rfl rfl) rfl (cg (qE rfl rfl) (cg (lE rfl rfl) rfl (cg rfl (cg (qE rfl rfl) (cg (qE rfl rfl) (cg (qE rfl rfl) rfl rfl) rfl) rfl) (cg (qE rfl rfl) (cg (lE rfl rfl) rfl (cg (lE rfl rfl) rfl (cg (lE rfl rfl) rfl (cg (lE rfl rfl) (cg (lE rfl rfl) rfl (cg (lE rfl rfl) rfl (cg (lE rfl rfl) rfl (cg (lE rfl rfl) rfl (cg (lE rfl rfl) rfl rfl))))) rfl)))) rfl))) rfl)) rfl) rfl))
theorem e14_1 (v0 : Int) (v1 : Int) (v2 : Int) (v3 : D) (v4 : D) (v5 : D) (v6 : D) (v7 : D) (v8 : D) (v9 : Int) (v10 : D) (v11 : D) (v12 : D) (v13 : Int) (v14 : Int) (v15 : Int) : f14_1 (.int v0) (.int v1) (.int v2) v3 v4 v5 v6 v7 v8 (.int v9) v10 v11 v12 (.int v13) (.int v14) (.int v15) =
  cond (decide (v2 < v0)) (
 cond (decide (v2 < 0)) (
 .row []) (
 cond (decide (v2 < (len v6 : Int))) (
 cond ((D.strEq (cl v6 v2 0) v7 && (D.strEq (cl v6 v2 1) v8 && (decide ((cl v6 v2 2).toInt = v9) && (D.strEq (cl v6 v2 3) v10 && (D.strEq (cl v6 v2 4) v11 && (D.strEq (cl v6 v2 5) v12 && (decide ((cl v6 v2 6).toInt = v13) && (decide ((cl v6 v2 7).toInt = v14) && decide ((cl v6 v2 8).toInt = v15)))))))))) (
 .row [.int 1, (.bool false)]) (
 f14_1 (.int v0) (.int v1) (.int (IntKind.wrap .i64 (v2 + 1))) v3 v4 v5 v6 v7 v8 (.int v9) v10 v11 v12 (.int v13) (.int v14) (.int v15))) (
 .row []))) (
 cond (decide (v9 = 1)) (
 cond (decide ((sl (f11_0 v10) 0).toInt = 1)) (
 cond ((sl (f11_0 v10) 1).toBool) (
 cond (decide ((sl (f11_0 v11) 0).toInt = 1)) (
 cond ((sl (f11_0 v11) 1).toBool) (
 .row [.int 1, (.bool (!D.strEq v11 v3))]) (
 .row [.int 1, (.bool false)])) (
 .row [])) (
 .row [.int 1, (.bool false)])) (
 .row [])) (
 cond (decide (v9 = 2)) (
 cond (decide ((sl (f11_0 v10) 0).toInt = 1)) (
 cond ((sl (f11_0 v10) 1).toBool) (
 cond (decide ((sl (f11_0 v11) 0).toInt = 1)) (
 cond ((sl (f11_0 v11) 1).toBool) (
 .row [.int 1, (.bool (!D.strEq v11 v3))]) (
 .row [.int 1, (.bool false)])) (
 .row [])) (
 .row [.int 1, (.bool false)])) (
 .row [])) (
 cond (decide (v9 = 3)) (
 cond (eqC v10 0 0) (
 cond (eqC v11 0 0) (
 cond (decide (v1 < 0)) (
 .row []) (
 cond (decide (v1 < (len v4 : Int))) (
 .row [.int 1, (.bool (decide (0 < (cl v4 v1 2).toInt)))]) (
 .row []))) (
 .row [.int 1, (.bool false)])) (
 .row [.int 1, (.bool false)])) (
 cond (decide (v9 = 4)) (
 cond (eqC v10 0 0) (
 .row [.int 1, (.bool (eqC v11 0 0))]) (
 .row [.int 1, (.bool false)])) (
 .row [.int 1, (.bool false)]))))) :=
  (g_walk lt (T := t14) (t := t14p1) rfl rfl).trans (cg (lE rfl rfl) (cg (lE rfl rfl) rfl (cg (lE rfl rfl) (cg (aE rfl (aE rfl (aE (qE rfl rfl) (aE rfl (aE rfl (aE rfl (aE (qE rfl rfl) (aE (qE rfl rfl) (qE rfl rfl))))))))) rfl rfl) rfl)) (cg (qE rfl rfl) (cg (qE rfl rfl) (cg rfl (cg (qE rfl rfl) (cg rfl rfl rfl) rfl) rfl) rfl) (cg (qE rfl rfl) (cg (qE rfl rfl) (cg rfl (cg (qE rfl rfl) (cg rfl rfl rfl) rfl) rfl) rfl) (cg (qE rfl rfl) (cg rfl (cg rfl (cg (lE rfl rfl) rfl (cg (lE rfl rfl) rfl rfl)) rfl) rfl) (cg (qE rfl rfl) (cg rfl rfl rfl) rfl)))))
/-! 15: phrasebook/phrasebookref28.Check -/
theorem e15_0 (v0 : D) (v1 : D) (v2 : D) (v3 : D) : f15_0 v0 v1 v2 v3 =
  cond (decide ((sl (f11_0 v0) 0).toInt = 1)) (
 cond ((sl (f11_0 v0) 1).toBool) (
 cond (decide (4 < (len v2 : Int))) (
 .row [.int 1, (.int 4), (.int 291)]) (
 f15_1 (.int 0) v0 v1 v2 v3)) (
 .row [.int 1, (.int 0), (.int 290)])) (
 .row []) :=
  (g_walk lt (T := t15) (t := t15p0) rfl rfl).trans (cg (qE rfl rfl) (cg rfl (cg (lE rfl rfl) rfl rfl) rfl) rfl)
theorem e15_1 (v0 : Int) (v1 : D) (v2 : D) (v3 : D) (v4 : D) : f15_1 (.int v0) v1 v2 v3 v4 =
  cond (decide (v0 < (len v3 : Int))) (
 cond (decide (v0 < 0)) (
 .row []) (
 cond (decide ((sl (f11_0 (cl v3 v0 0)) 0).toInt = 1)) (
 cond ((sl (f11_0 (cl v3 v0 0)) 1).toBool) (
 cond (decide ((sl (f12_0 v1 v2 v3 v4 (cl v3 v0 0)) 0).toInt = 1)) (
 cond (decide ((sl (f12_0 v1 v2 v3 v4 (cl v3 v0 0)) 1).toInt = v0)) (
 cond (decide ((cl v3 v0 1).toInt < 1)) (
 .row [.int 1, (.int v0), (.int 291)]) (
 cond (decide (1000 < (cl v3 v0 1).toInt)) (
 .row [.int 1, (.int v0), (.int 291)]) (
 f15_1 (.int (IntKind.wrap .i64 (v0 + 1))) v1 v2 v3 v4))) (
 .row [.int 1, (.int v0), (.int 291)])) (
 .row [])) (
 .row [.int 1, (.int v0), (.int 291)])) (
 .row []))) (
 cond (decide ((len v2 : Int) = 0)) (
 .row [.int 1, (.int 0), (.int 292)]) (
 cond (decide (24 < (len v2 : Int))) (
 .row [.int 1, (.int 24), (.int 292)]) (
 f15_2 (.int 0) v1 v2 v3 v4))) :=
  (g_walk lt (T := t15) (t := t15p1) rfl rfl).trans (cg (lE rfl rfl) (cg (lE rfl rfl) rfl (cg (qE rfl rfl) (cg rfl (cg (qE rfl rfl) (cg (qE rfl rfl) (cg (lE rfl rfl) rfl (cg (lE rfl rfl) rfl rfl)) rfl) rfl) rfl) rfl)) (cg (qE rfl rfl) rfl (cg (lE rfl rfl) rfl rfl)))
theorem e15_2 (v0 : Int) (v1 : D) (v2 : D) (v3 : D) (v4 : D) : f15_2 (.int v0) v1 v2 v3 v4 =
  cond (decide (v0 < (len v2 : Int))) (
 cond (decide (v0 < 0)) (
 .row []) (
 cond (decide ((sl (f11_0 (cl v2 v0 0)) 0).toInt = 1)) (
 cond ((sl (f11_0 (cl v2 v0 0)) 1).toBool) (
 cond (decide ((sl (f13_0 v1 v2 v3 v4 (cl v2 v0 0)) 0).toInt = 1)) (
 cond (decide ((sl (f13_0 v1 v2 v3 v4 (cl v2 v0 0)) 1).toInt = v0)) (
 cond (decide ((cl v2 v0 2).toInt < 0)) (
 .row [.int 1, (.int v0), (.int 292)]) (
 cond (decide (1048576 < (cl v2 v0 2).toInt)) (
 .row [.int 1, (.int v0), (.int 292)]) (
 f15_2 (.int (IntKind.wrap .i64 (v0 + 1))) v1 v2 v3 v4))) (
 .row [.int 1, (.int v0), (.int 292)])) (
 .row [])) (
 .row [.int 1, (.int v0), (.int 292)])) (
 .row []))) (
 cond (decide (80 < (len v4 : Int))) (
 .row [.int 1, (.int 80), (.int 293)]) (
 f15_3 (.int 0) v1 v2 v3 v4)) :=
  (g_walk lt (T := t15) (t := t15p2) rfl rfl).trans (cg (lE rfl rfl) (cg (lE rfl rfl) rfl (cg (qE rfl rfl) (cg rfl (cg (qE rfl rfl) (cg (qE rfl rfl) (cg (lE rfl rfl) rfl (cg (lE rfl rfl) rfl rfl)) rfl) rfl) rfl) rfl)) (cg (lE rfl rfl) rfl rfl))
theorem e15_3 (v0 : Int) (v1 : D) (v2 : D) (v3 : D) (v4 : D) : f15_3 (.int v0) v1 v2 v3 v4 =
  cond (decide (v0 < (len v4 : Int))) (
 cond (decide ((sl (f14_0 v1 v2 v3 v4 (.int v0)) 0).toInt = 1)) (
 cond ((sl (f14_0 v1 v2 v3 v4 (.int v0)) 1).toBool) (
 f15_3 (.int (IntKind.wrap .i64 (v0 + 1))) v1 v2 v3 v4) (
 .row [.int 1, (.int v0), (.int 293)])) (
 .row [])) (
 .row [.int 1, (.int 0), (.int 0)]) :=
  (g_walk lt (T := t15) (t := t15p3) rfl rfl).trans (cg (lE rfl rfl) (cg (qE rfl rfl) (cg rfl rfl rfl) rfl) rfl)
/-! 16: phrasebook/phrasebookref48.state -/
theorem e16_0 (v0 : D) (v1 : D) (v2 : D) (v3 : D) (v4 : D) : f16_0 v0 v1 v2 v3 v4 =
  f16_1 v4 (.int 0) v0 v1 v2 v3 :=
  (g_walk lt (T := t16) (t := t16p0) rfl rfl).trans rfl
theorem e16_1 (v0 : D) (v1 : Int) (v2 : D) (v3 : D) (v4 : D) (v5 : D) : f16_1 v0 (.int v1) v2 v3 v4 v5 =
  cond (decide (v1 < (len v3 : Int))) (
 cond (decide (v1 < 0)) (
 .row []) (
 cond (D.strEq (cl v3 v1 0) v0) (
 .row [.int 1, (.int v1)]) (
 f16_1 v0 (.int (IntKind.wrap .i64 (v1 + 1))) v2 v3 v4 v5))) (
 .row [.int 1, (.int (-1))]) :=
  (g_walk lt (T := t16) (t := t16p1) rfl rfl).trans (cg (lE rfl rfl) (cg (lE rfl rfl) rfl (cg rfl rfl rfl)) rfl)
/-! 17: phrasebook/phrasebookref48.counter -/
theorem e17_0 (v0 : D) (v1 : D) (v2 : D) (v3 : D) (v4 : D) : f17_0 v0 v1 v2 v3 v4 =
  f17_1 v4 (.int 0) v0 v1 v2 v3 :=
  (g_walk lt (T := t17) (t := t17p0) rfl rfl).trans rfl
theorem e17_1 (v0 : D) (v1 : Int) (v2 : D) (v3 : D) (v4 : D) (v5 : D) : f17_1 v0 (.int v1) v2 v3 v4 v5 =
  cond (decide (v1 < (len v4 : Int))) (
 cond (decide (v1 < 0)) (
 .row []) (
 cond (D.strEq (cl v4 v1 0) v0) (
 .row [.int 1, (.int v1)]) (
 f17_1 v0 (.int (IntKind.wrap .i64 (v1 + 1))) v2 v3 v4 v5))) (
 .row [.int 1, (.int (-1))]) :=
  (g_walk lt (T := t17) (t := t17p1) rfl rfl).trans (cg (lE rfl rfl) (cg (lE rfl rfl) rfl (cg rfl rfl rfl)) rfl)
/-! 18: phrasebook/phrasebookref48.Check -/
theorem e18_0 (v0 : D) (v1 : D) (v2 : D) (v3 : D) (v4 : D) (v5 : D) (v6 : D) (v7 : D) (v8 : D) (v9 : D) : f18_0 v0 v1 v2 v3 v4 v5 v6 v7 v8 v9 =
  cond (decide ((sl (f15_0 v0 v1 v2 v3) 0).toInt = 1)) (
 cond (decide ((sl (f15_0 v0 v1 v2 v3) 2).toInt = 0)) (
 cond (decide ((sl (f15_0 v4 v5 v6 v7) 0).toInt = 1)) (
 cond (decide ((sl (f15_0 v4 v5 v6 v7) 2).toInt = 0)) (
 cond (decide (24 < (len v8 : Int))) (
 .row [.int 1, (.int 24), (.int 490)]) (
 f18_1 (.int 0) v0 v1 v2 v3 v4 v5 v6 v7 v8 v9)) (
 .row [.int 1, (.int 0), (.int 2)])) (
 .row [])) (
 .row [.int 1, (.int 0), (.int 2)])) (
 .row []) :=
  (g_walk lt (T := t18) (t := t18p0) rfl rfl).trans (cg (qE rfl rfl) (cg (qE rfl rfl) (cg (qE rfl rfl) (cg (qE rfl rfl) (cg (lE rfl rfl) rfl rfl) rfl) rfl) rfl) rfl)
theorem e18_1 (v0 : Int) (v1 : D) (v2 : D) (v3 : D) (v4 : D) (v5 : D) (v6 : D) (v7 : D) (v8 : D) (v9 : D) (v10 : D) : f18_1 (.int v0) v1 v2 v3 v4 v5 v6 v7 v8 v9 v10 =
  cond (decide (v0 < (len v9 : Int))) (
 cond (decide (v0 < 0)) (
 .row []) (
 cond (decide ((sl (f16_0 v1 v2 v3 v4 (cl v9 v0 0)) 0).toInt = 1)) (
 cond (decide ((sl (f16_0 v1 v2 v3 v4 (cl v9 v0 0)) 1).toInt < 0)) (
 f18_2 (.int v0) (.bool true) (.int 0) v1 v2 v3 v4 v5 v6 v7 v8 v9 v10) (
 cond (decide ((sl (f16_0 v5 v6 v7 v8 (cl v9 v0 1)) 0).toInt = 1)) (
 f18_2 (.int v0) (.bool (decide ((sl (f16_0 v5 v6 v7 v8 (cl v9 v0 1)) 1).toInt < 0))) (.int 0) v1 v2 v3 v4 v5 v6 v7 v8 v9 v10) (
 .row []))) (
 .row []))) (
 cond (decide (4 < (len v10 : Int))) (
 .row [.int 1, (.int 4), (.int 491)]) (
 f18_3 (.int 0) v1 v2 v3 v4 v5 v6 v7 v8 v9 v10)) :=
  (g_walk lt (T := t18) (t := t18p1) rfl rfl).trans (cg (lE rfl rfl) (cg (lE rfl rfl) rfl (cg (qE rfl rfl) (cg (lE rfl rfl) rfl (cg (qE rfl rfl) rfl rfl)) rfl)) (cg (lE rfl rfl) rfl rfl))
theorem e18_2 (v0 : Int) (v1 : Bool) (v2 : Int) (v3 : D) (v4 : D) (v5 : D) (v6 : D) (v7 : D) (v8 : D) (v9 : D) (v10 : D) (v11 : D) (v12 : D) : f18_2 (.int v0) (.bool v1) (.int v2) v3 v4 v5 v6 v7 v8 v9 v10 v11 v12 =
  cond (decide (v2 < v0)) (
 cond (v1) (
 f18_2 (.int v0) (.bool true) (.int (IntKind.wrap .i64 (v2 + 1))) v3 v4 v5 v6 v7 v8 v9 v10 v11 v12) (
 cond (decide (v2 < 0)) (
 .row []) (
 cond (decide (v2 < (len v11 : Int))) (
 cond (decide (v0 < 0)) (
 .row []) (
 cond (decide (v0 < (len v11 : Int))) (
 f18_2 (.int v0) (.bool (D.strEq (cl v11 v2 0) (cl v11 v0 0))) (.int (IntKind.wrap .i64 (v2 + 1))) v3 v4 v5 v6 v7 v8 v9 v10 v11 v12) (
 .row []))) (
 .row [])))) (
 cond (v1) (
 .row [.int 1, (.int v0), (.int 490)]) (
 f18_1 (.int (IntKind.wrap .i64 (v0 + 1))) v3 v4 v5 v6 v7 v8 v9 v10 v11 v12)) :=
  (g_walk lt (T := t18) (t := t18p2) rfl rfl).trans (cg (lE rfl rfl) (cg rfl rfl (cg (lE rfl rfl) rfl (cg (lE rfl rfl) (cg (lE rfl rfl) rfl (cg (lE rfl rfl) rfl rfl)) rfl))) (cg rfl rfl rfl))
theorem e18_3 (v0 : Int) (v1 : D) (v2 : D) (v3 : D) (v4 : D) (v5 : D) (v6 : D) (v7 : D) (v8 : D) (v9 : D) (v10 : D) : f18_3 (.int v0) v1 v2 v3 v4 v5 v6 v7 v8 v9 v10 =
  cond (decide (v0 < (len v10 : Int))) (
 cond (decide (v0 < 0)) (
 .row []) (
 cond (decide ((sl (f17_0 v5 v6 v7 v8 (cl v10 v0 0)) 0).toInt = 1)) (
 cond (decide ((sl (f17_0 v5 v6 v7 v8 (cl v10 v0 0)) 1).toInt < 0)) (
 f18_4 (.int v0) (.bool true) (.int 0) v1 v2 v3 v4 v5 v6 v7 v8 v9 v10 (cl v10 v0 0) (cl v10 v0 1) (cl v10 v0 2)) (
 cond (eqC (cl v10 v0 1) 0 0) (
 cond (decide (1000 < (cl v10 v0 2).toInt)) (
 f18_4 (.int v0) (.bool true) (.int 0) v1 v2 v3 v4 v5 v6 v7 v8 v9 v10 (cl v10 v0 0) (cl v10 v0 1) (cl v10 v0 2)) (
 f18_4 (.int v0) (.bool (decide ((cl v10 v0 2).toInt < (-1000)))) (.int 0) v1 v2 v3 v4 v5 v6 v7 v8 v9 v10 (cl v10 v0 0) (cl v10 v0 1) (cl v10 v0 2))) (
 cond (decide ((sl (f17_0 v1 v2 v3 v4 (cl v10 v0 1)) 0).toInt = 1)) (
 cond (decide ((sl (f17_0 v1 v2 v3 v4 (cl v10 v0 1)) 1).toInt < 0)) (
 f18_4 (.int v0) (.bool true) (.int 0) v1 v2 v3 v4 v5 v6 v7 v8 v9 v10 (cl v10 v0 0) (cl v10 v0 1) (cl v10 v0 2)) (
 cond (decide (1000 < (cl v10 v0 2).toInt)) (
 f18_4 (.int v0) (.bool true) (.int 0) v1 v2 v3 v4 v5 v6 v7 v8 v9 v10 (cl v10 v0 0) (cl v10 v0 1) (cl v10 v0 2)) (
 f18_4 (.int v0) (.bool (decide ((cl v10 v0 2).toInt < (-1000)))) (.int 0) v1 v2 v3 v4 v5 v6 v7 v8 v9 v10 (cl v10 v0 0) (cl v10 v0 1) (cl v10 v0 2)))) (
 .row [])))) (
 .row []))) (
 .row [.int 1, (.int 0), (.int 0)]) :=
  (g_walk lt (T := t18) (t := t18p3) rfl rfl).trans (cg (lE rfl rfl) (cg (lE rfl rfl) rfl (cg (qE rfl rfl) (cg (lE rfl rfl) rfl (cg rfl (cg (lE rfl rfl) rfl rfl) (cg (qE rfl rfl) (cg (lE rfl rfl) rfl (cg (lE rfl rfl) rfl rfl)) rfl))) rfl)) rfl)
theorem e18_4 (v0 : Int) (v1 : Bool) (v2 : Int) (v3 : D) (v4 : D) (v5 : D) (v6 : D) (v7 : D) (v8 : D) (v9 : D) (v10 : D) (v11 : D) (v12 : D) (v13 : D) (v14 : D) (v15 : Int) : f18_4 (.int v0) (.bool v1) (.int v2) v3 v4 v5 v6 v7 v8 v9 v10 v11 v12 v13 v14 (.int v15) =
  cond (decide (v2 < v0)) (
 cond (v1) (
 f18_4 (.int v0) (.bool true) (.int (IntKind.wrap .i64 (v2 + 1))) v3 v4 v5 v6 v7 v8 v9 v10 v11 v12 v13 v14 (.int v15)) (
 cond (decide (v2 < 0)) (
 .row []) (
 cond (decide (v2 < (len v12 : Int))) (
 f18_4 (.int v0) (.bool (D.strEq (cl v12 v2 0) v13)) (.int (IntKind.wrap .i64 (v2 + 1))) v3 v4 v5 v6 v7 v8 v9 v10 v11 v12 v13 v14 (.int v15)) (
 .row [])))) (
 cond (v1) (
 .row [.int 1, (.int v0), (.int 491)]) (
 f18_3 (.int (IntKind.wrap .i64 (v0 + 1))) v3 v4 v5 v6 v7 v8 v9 v10 v11 v12)) :=
  (g_walk lt (T := t18) (t := t18p4) rfl rfl).trans (cg (lE rfl rfl) (cg rfl rfl (cg (lE rfl rfl) rfl (cg (lE rfl rfl) rfl rfl))) (cg rfl rfl rfl))
/-! 19: phrasebook/convert.keyOf -/
theorem e19_0 (v0 : D) (v1 : D) (v2 : D) (v3 : D) (v4 : D) (v5 : D) : f19_0 v0 v1 v2 v3 v4 v5 =
  cond (decide ((sl (f8_0 v1 v4) 0).toInt = 1)) (
 cond (decide ((sl (f8_0 v1 v4) 1).toInt < 0)) (
 .row [.int 1, (sl (f8_0 v1 v4) 1), (.int 0), (.int 0), (.int 0), (.int 0), (.bool false)]) (
 cond (decide ((len v5 : Int) = (len v2 : Int))) (
 f19_1 v5 (.int 0) v0 v1 v2 v3 v4 (sl (f8_0 v1 v4) 1)) (
 .row [.int 1, (sl (f8_0 v1 v4) 1), (.int 0), (.int 0), (.int 0), (.int 0), (.bool false)]))) (
 .row []) :=
  (g_walk lt (T := t19) (t := t19p0) rfl rfl).trans (cg (qE rfl rfl) (cg (lE rfl rfl) rfl (cg (qE rfl rfl) rfl rfl)) rfl)
theorem e19_1 (v0 : D) (v1 : Int) (v2 : D) (v3 : D) (v4 : D) (v5 : D) (v6 : D) (v7 : Int) : f19_1 v0 (.int v1) v2 v3 v4 v5 v6 (.int v7) =
  cond (decide (v1 < (len v0 : Int))) (
 cond (decide (v1 < 0)) (
 .row []) (
 cond (decide ((cl v0 v1 0).toInt < 0)) (
 .row [.int 1, (.int v7), (.int 0), (.int 0), (.int 0), (.int 0), (.bool false)]) (
 cond (decide (v1 < (len v4 : Int))) (
 cond (decide ((cl v4 v1 1).toInt < (cl v0 v1 0).toInt)) (
 .row [.int 1, (.int v7), (.int 0), (.int 0), (.int 0), (.int 0), (.bool false)]) (
 f19_1 v0 (.int (IntKind.wrap .i64 (v1 + 1))) v2 v3 v4 v5 v6 (.int v7))) (
 .row [])))) (
 cond (decide ((len v0 : Int) < 4)) (
 cond (decide ((len v0 : Int) = 0)) (
 .row [.int 1, (.int v7), (.int 0), (.int 0), (.int 0), (.int 0), (.bool true)]) (
 cond (decide ((len v0 : Int) = 1)) (
 .row [.int 1, (.int v7), (cl v0 0 0), (.int 0), (.int 0), (.int 0), (.bool true)]) (
 cond (decide ((len v0 : Int) = 2)) (
 .row [.int 1, (.int v7), (cl v0 0 0), (cl v0 1 0), (.int 0), (.int 0), (.bool true)]) (
 cond (decide ((len v0 : Int) = 3)) (
 .row [.int 1, (.int v7), (cl v0 0 0), (cl v0 1 0), (cl v0 2 0), (.int 0), (.bool true)]) (
 .row []))))) (
 .row [.int 1, (.int v7), (cl v0 0 0), (cl v0 1 0), (cl v0 2 0), (cl v0 3 0), (.bool true)])) :=
  (g_walk lt (T := t19) (t := t19p1) rfl rfl).trans (cg (lE rfl rfl) (cg (lE rfl rfl) rfl (cg (lE rfl rfl) rfl (cg (lE rfl rfl) (cg (lE rfl rfl) rfl rfl) rfl))) (cg (lE rfl rfl) (cg (qE rfl rfl) rfl (cg (qE rfl rfl) rfl (cg (qE rfl rfl) rfl (cg (qE rfl rfl) rfl rfl)))) rfl))
/-! 20: slices.IndexFunc[[]phrasebook/api.StatePair,phrasebook/api.StatePair] -/
theorem e20_0 (v0 : D) (v1 : D) (v2 : D) (v3 : D) (v4 : D) (v5 : Int) (v6 : Int) (v7 : Int) (v8 : Int) (v9 : Int) : f20_0 v0 v1 v2 v3 v4 (.int v5) (.int v6) (.int v7) (.int v8) (.int v9) =
  f20_1 v0 (.int 0) v1 v2 v3 v4 (.int v5) (.int v6) (.int v7) (.int v8) (.int v9) :=
  (g_walk lt (T := t20) (t := t20p0) rfl rfl).trans rfl
theorem e20_1 (v0 : D) (v1 : Int) (v2 : D) (v3 : D) (v4 : D) (v5 : D) (v6 : Int) (v7 : Int) (v8 : Int) (v9 : Int) (v10 : Int) : f20_1 v0 (.int v1) v2 v3 v4 v5 (.int v6) (.int v7) (.int v8) (.int v9) (.int v10) =
  cond (decide (v1 < (len v0 : Int))) (
 cond (decide (v1 < 0)) (
 .row []) (
 cond (decide (v6 < 0)) (
 .row []) (
 cond (decide (v6 < (len v3 : Int))) (
 cond (D.strEq (cl v0 v1 0) (cl v3 v6 0)) (
 .row [.int 1, (.int v1)]) (
 f20_1 v0 (.int (IntKind.wrap .i64 (v1 + 1))) v2 v3 v4 v5 (.int v6) (.int v7) (.int v8) (.int v9) (.int v10))) (
 .row [])))) (
 .row [.int 1, (.int (-1))]) :=
  (g_walk lt (T := t20) (t := t20p1) rfl rfl).trans (cg (lE rfl rfl) (cg (lE rfl rfl) rfl (cg (lE rfl rfl) rfl (cg (lE rfl rfl) (cg rfl rfl rfl) rfl))) rfl)
/-! 21: phrasebook/convert.convert -/
theorem e21_0 (v0 : D) (v1 : D) (v2 : D) (v3 : D) (v4 : D) (v5 : D) (v6 : D) (v7 : D) (v8 : D) (v9 : D) (v10 : Int) (v11 : Int) (v12 : Int) (v13 : Int) (v14 : Int) : f21_0 v0 v1 v2 v3 v4 v5 v6 v7 v8 v9 (.int v10) (.int v11) (.int v12) (.int v13) (.int v14) =
  cond (decide ((sl (f20_0 v8 v0 v1 v2 v3 (.int v10) (.int v11) (.int v12) (.int v13) (.int v14)) 0).toInt = 1)) (
 cond (decide ((sl (f20_0 v8 v0 v1 v2 v3 (.int v10) (.int v11) (.int v12) (.int v13) (.int v14)) 1).toInt < 0)) (
 .row [.int 1, (.int 0), (.int 0), (.int 0), (.int 0), (.int 0), (.int 9)]) (
 cond (decide ((sl (f20_0 v8 v0 v1 v2 v3 (.int v10) (.int v11) (.int v12) (.int v13) (.int v14)) 1).toInt < (len v8 : Int))) (
 cond (decide ((sl (f8_0 v5 (cl v8 (sl (f20_0 v8 v0 v1 v2 v3 (.int v10) (.int v11) (.int v12) (.int v13) (.int v14)) 1).toInt 1)) 0).toInt = 1)) (
 f21_1 v9 (.int 0) v0 v1 v2 v3 v4 v5 v6 v7 (.int v10) (.int v11) (.int v12) (.int v13) (.int v14) (sl (f8_0 v5 (cl v8 (sl (f20_0 v8 v0 v1 v2 v3 (.int v10) (.int v11) (.int v12) (.int v13) (.int v14)) 1).toInt 1)) 1) (.int 0) (.int 0) (.int 0) (.int 0)) (
 .row [])) (
 .row []))) (
 .row []) :=
  (g_walk lt (T := t21) (t := t21p0) rfl rfl).trans (cg (qE rfl rfl) (cg (lE rfl rfl) rfl (cg (lE rfl rfl) (cg (qE rfl rfl) rfl rfl) rfl)) rfl)
theorem e21_1 (v0 : D) (v1 : Int) (v2 : D) (v3 : D) (v4 : D) (v5 : D) (v6 : D) (v7 : D) (v8 : D) (v9 : D) (v10 : Int) (v11 : Int) (v12 : Int) (v13 : Int) (v14 : Int) (v15 : Int) (v16 : Int) (v17 : Int) (v18 : Int) (v19 : Int) {F0 : D} (h0 : f9_0 v8 (cl v0 v1 0) = F0) : f21_1 v0 (.int v1) v2 v3 v4 v5 v6 v7 v8 v9 (.int v10) (.int v11) (.int v12) (.int v13) (.int v14) (.int v15) (.int v16) (.int v17) (.int v18) (.int v19) =
  cond (decide (v1 < (len v0 : Int))) (
 cond (decide (v1 < 0)) (
 .row []) (
 cond (decide ((sl F0 0).toInt = 1)) (
 cond (decide ((sl (f9_0 v4 (cl v0 v1 1)) 0).toInt = 1)) (
 cond (decide ((sl (f9_0 v4 (cl v0 v1 1)) 1).toInt < 0)) (
 cond (decide ((cl v0 v1 2).toInt < 0)) (
 .row [.int 1, (.int 0), (.int 0), (.int 0), (.int 0), (.int 0), (.int 3)]) (
 cond (decide ((sl F0 1).toInt < 0)) (
 .row []) (
 cond (decide ((sl F0 1).toInt < (len v8 : Int))) (
 cond (decide ((cl v8 (sl F0 1).toInt 1).toInt < (cl v0 v1 2).toInt)) (
 .row [.int 1, (.int 0), (.int 0), (.int 0), (.int 0), (.int 0), (.int 3)]) (
 cond (decide ((sl F0 1).toInt = 0)) (
 f21_1 v0 (.int (IntKind.wrap .i64 (v1 + 1))) v2 v3 v4 v5 v6 v7 v8 v9 (.int v10) (.int v11) (.int v12) (.int v13) (.int v14) (.int v15) (cl v0 v1 2) (.int v17) (.int v18) (.int v19)) (
 cond (decide ((sl F0 1).toInt = 1)) (
 f21_1 v0 (.int (IntKind.wrap .i64 (v1 + 1))) v2 v3 v4 v5 v6 v7 v8 v9 (.int v10) (.int v11) (.int v12) (.int v13) (.int v14) (.int v15) (.int v16) (cl v0 v1 2) (.int v18) (.int v19)) (
 cond (decide ((sl F0 1).toInt = 2)) (
 f21_1 v0 (.int (IntKind.wrap .i64 (v1 + 1))) v2 v3 v4 v5 v6 v7 v8 v9 (.int v10) (.int v11) (.int v12) (.int v13) (.int v14) (.int v15) (.int v16) (.int v17) (cl v0 v1 2) (.int v19)) (
 cond (decide ((sl F0 1).toInt = 3)) (
 f21_1 v0 (.int (IntKind.wrap .i64 (v1 + 1))) v2 v3 v4 v5 v6 v7 v8 v9 (.int v10) (.int v11) (.int v12) (.int v13) (.int v14) (.int v15) (.int v16) (.int v17) (.int v18) (cl v0 v1 2)) (
 .row [])))))) (
 .row [])))) (
 cond (decide ((sl (f9_0 v4 (cl v0 v1 1)) 1).toInt = 0)) (
 cond (decide ((IntKind.wrap .i64 ((cl v0 v1 2).toInt + v11)) < 0)) (
 .row [.int 1, (.int 0), (.int 0), (.int 0), (.int 0), (.int 0), (.int 3)]) (
 cond (decide ((sl F0 1).toInt < 0)) (
 .row []) (
 cond (decide ((sl F0 1).toInt < (len v8 : Int))) (
 cond (decide ((cl v8 (sl F0 1).toInt 1).toInt < (IntKind.wrap .i64 ((cl v0 v1 2).toInt + v11)))) (
 .row [.int 1, (.int 0), (.int 0), (.int 0), (.int 0), (.int 0), (.int 3)]) (
 cond (decide ((sl F0 1).toInt = 0)) (
 f21_1 v0 (.int (IntKind.wrap .i64 (v1 + 1))) v2 v3 v4 v5 v6 v7 v8 v9 (.int v10) (.int v11) (.int v12) (.int v13) (.int v14) (.int v15) (.int (IntKind.wrap .i64 ((cl v0 v1 2).toInt + v11))) (.int v17) (.int v18) (.int v19)) (
 cond (decide ((sl F0 1).toInt = 1)) (
 f21_1 v0 (.int (IntKind.wrap .i64 (v1 + 1))) v2 v3 v4 v5 v6 v7 v8 v9 (.int v10) (.int v11) (.int v12) (.int v13) (.int v14) (.int v15) (.int v16) (.int (IntKind.wrap .i64 ((cl v0 v1 2).toInt + v11))) (.int v18) (.int v19)) (
 cond (decide ((sl F0 1).toInt = 2)) (
 f21_1 v0 (.int (IntKind.wrap .i64 (v1 + 1))) v2 v3 v4 v5 v6 v7 v8 v9 (.int v10) (.int v11) (.int v12) (.int v13) (.int v14) (.int v15) (.int v16) (.int v17) (.int (IntKind.wrap .i64 ((cl v0 v1 2).toInt + v11))) (.int v19)) (
 cond (decide ((sl F0 1).toInt = 3)) (
 f21_1 v0 (.int (IntKind.wrap .i64 (v1 + 1))) v2 v3 v4 v5 v6 v7 v8 v9 (.int v10) (.int v11) (.int v12) (.int v13) (.int v14) (.int v15) (.int v16) (.int v17) (.int v18) (.int (IntKind.wrap .i64 ((cl v0 v1 2).toInt + v11)))) (
 .row [])))))) (
 .row [])))) (
 cond (decide ((sl (f9_0 v4 (cl v0 v1 1)) 1).toInt = 1)) (
 cond (decide ((IntKind.wrap .i64 ((cl v0 v1 2).toInt + v12)) < 0)) (
 .row [.int 1, (.int 0), (.int 0), (.int 0), (.int 0), (.int 0), (.int 3)]) (
 cond (decide ((sl F0 1).toInt < 0)) (
 .row []) (
 cond (decide ((sl F0 1).toInt < (len v8 : Int))) (
 cond (decide ((cl v8 (sl F0 1).toInt 1).toInt < (IntKind.wrap .i64 ((cl v0 v1 2).toInt + v12)))) (
 .row [.int 1, (.int 0), (.int 0), (.int 0), (.int 0), (.int 0), (.int 3)]) (
 cond (decide ((sl F0 1).toInt = 0)) (
 f21_1 v0 (.int (IntKind.wrap .i64 (v1 + 1))) v2 v3 v4 v5 v6 v7 v8 v9 (.int v10) (.int v11) (.int v12) (.int v13) (.int v14) (.int v15) (.int (IntKind.wrap .i64 ((cl v0 v1 2).toInt + v12))) (.int v17) (.int v18) (.int v19)) (
 cond (decide ((sl F0 1).toInt = 1)) (
 f21_1 v0 (.int (IntKind.wrap .i64 (v1 + 1))) v2 v3 v4 v5 v6 v7 v8 v9 (.int v10) (.int v11) (.int v12) (.int v13) (.int v14) (.int v15) (.int v16) (.int (IntKind.wrap .i64 ((cl v0 v1 2).toInt + v12))) (.int v18) (.int v19)) (
 cond (decide ((sl F0 1).toInt = 2)) (
 f21_1 v0 (.int (IntKind.wrap .i64 (v1 + 1))) v2 v3 v4 v5 v6 v7 v8 v9 (.int v10) (.int v11) (.int v12) (.int v13) (.int v14) (.int v15) (.int v16) (.int v17) (.int (IntKind.wrap .i64 ((cl v0 v1 2).toInt + v12))) (.int v19)) (
 cond (decide ((sl F0 1).toInt = 3)) (
 f21_1 v0 (.int (IntKind.wrap .i64 (v1 + 1))) v2 v3 v4 v5 v6 v7 v8 v9 (.int v10) (.int v11) (.int v12) (.int v13) (.int v14) (.int v15) (.int v16) (.int v17) (.int v18) (.int (IntKind.wrap .i64 ((cl v0 v1 2).toInt + v12)))) (
 .row [])))))) (
 .row [])))) (
 cond (decide ((sl (f9_0 v4 (cl v0 v1 1)) 1).toInt = 2)) (
 cond (decide ((IntKind.wrap .i64 ((cl v0 v1 2).toInt + v13)) < 0)) (
 .row [.int 1, (.int 0), (.int 0), (.int 0), (.int 0), (.int 0), (.int 3)]) (
 cond (decide ((sl F0 1).toInt < 0)) (
 .row []) (
 cond (decide ((sl F0 1).toInt < (len v8 : Int))) (
 cond (decide ((cl v8 (sl F0 1).toInt 1).toInt < (IntKind.wrap .i64 ((cl v0 v1 2).toInt + v13)))) (
 .row [.int 1, (.int 0), (.int 0), (.int 0), (.int 0), (.int 0), (.int 3)]) (
 cond (decide ((sl F0 1).toInt = 0)) (
 f21_1 v0 (.int (IntKind.wrap .i64 (v1 + 1))) v2 v3 v4 v5 v6 v7 v8 v9 (.int v10) (.int v11) (.int v12) (.int v13) (.int v14) (.int v15) (.int (IntKind.wrap .i64 ((cl v0 v1 2).toInt + v13))) (.int v17) (.int v18) (.int v19)) (
 cond (decide ((sl F0 1).toInt = 1)) (
 f21_1 v0 (.int (IntKind.wrap .i64 (v1 + 1))) v2 v3 v4 v5 v6 v7 v8 v9 (.int v10) (.int v11) (.int v12) (.int v13) (.int v14) (.int v15) (.int v16) (.int (IntKind.wrap .i64 ((cl v0 v1 2).toInt + v13))) (.int v18) (.int v19)) (
 cond (decide ((sl F0 1).toInt = 2)) (
 f21_1 v0 (.int (IntKind.wrap .i64 (v1 + 1))) v2 v3 v4 v5 v6 v7 v8 v9 (.int v10) (.int v11) (.int v12) (.int v13) (.int v14) (.int v15) (.int v16) (.int v17) (.int (IntKind.wrap .i64 ((cl v0 v1 2).toInt + v13))) (.int v19)) (
 cond (decide ((sl F0 1).toInt = 3)) (
 f21_1 v0 (.int (IntKind.wrap .i64 (v1 + 1))) v2 v3 v4 v5 v6 v7 v8 v9 (.int v10) (.int v11) (.int v12) (.int v13) (.int v14) (.int v15) (.int v16) (.int v17) (.int v18) (.int (IntKind.wrap .i64 ((cl v0 v1 2).toInt + v13)))) (
 .row [])))))) (
 .row [])))) (
 cond (decide ((sl (f9_0 v4 (cl v0 v1 1)) 1).toInt = 3)) (
 cond (decide ((IntKind.wrap .i64 ((cl v0 v1 2).toInt + v14)) < 0)) (
 .row [.int 1, (.int 0), (.int 0), (.int 0), (.int 0), (.int 0), (.int 3)]) (
 cond (decide ((sl F0 1).toInt < 0)) (
 .row []) (
 cond (decide ((sl F0 1).toInt < (len v8 : Int))) (
 cond (decide ((cl v8 (sl F0 1).toInt 1).toInt < (IntKind.wrap .i64 ((cl v0 v1 2).toInt + v14)))) (
 .row [.int 1, (.int 0), (.int 0), (.int 0), (.int 0), (.int 0), (.int 3)]) (
 cond (decide ((sl F0 1).toInt = 0)) (
 f21_1 v0 (.int (IntKind.wrap .i64 (v1 + 1))) v2 v3 v4 v5 v6 v7 v8 v9 (.int v10) (.int v11) (.int v12) (.int v13) (.int v14) (.int v15) (.int (IntKind.wrap .i64 ((cl v0 v1 2).toInt + v14))) (.int v17) (.int v18) (.int v19)) (
 cond (decide ((sl F0 1).toInt = 1)) (
 f21_1 v0 (.int (IntKind.wrap .i64 (v1 + 1))) v2 v3 v4 v5 v6 v7 v8 v9 (.int v10) (.int v11) (.int v12) (.int v13) (.int v14) (.int v15) (.int v16) (.int (IntKind.wrap .i64 ((cl v0 v1 2).toInt + v14))) (.int v18) (.int v19)) (
 cond (decide ((sl F0 1).toInt = 2)) (
 f21_1 v0 (.int (IntKind.wrap .i64 (v1 + 1))) v2 v3 v4 v5 v6 v7 v8 v9 (.int v10) (.int v11) (.int v12) (.int v13) (.int v14) (.int v15) (.int v16) (.int v17) (.int (IntKind.wrap .i64 ((cl v0 v1 2).toInt + v14))) (.int v19)) (
 cond (decide ((sl F0 1).toInt = 3)) (
 f21_1 v0 (.int (IntKind.wrap .i64 (v1 + 1))) v2 v3 v4 v5 v6 v7 v8 v9 (.int v10) (.int v11) (.int v12) (.int v13) (.int v14) (.int v15) (.int v16) (.int v17) (.int v18) (.int (IntKind.wrap .i64 ((cl v0 v1 2).toInt + v14)))) (
 .row [])))))) (
 .row [])))) (
 .row [])))))) (
 .row [])) (
 .row []))) (
 .row [.int 1, (.int v15), (.int v16), (.int v17), (.int v18), (.int v19), (.int 0)]) := by
  subst h0; exact (g_walk lt (T := t21) (t := t21p1) rfl rfl).trans (cg (lE rfl rfl) (cg (lE rfl rfl) rfl (cg (qE rfl rfl) (cg (qE rfl rfl) (cg (lE rfl rfl) (cg (lE rfl rfl) rfl (cg (lE rfl rfl) rfl (cg (lE rfl rfl) (cg (lE rfl rfl) rfl (cg (qE rfl rfl) rfl (cg (qE rfl rfl) rfl (cg (qE rfl rfl) rfl (cg (qE rfl rfl) rfl rfl))))) rfl))) (cg (qE rfl rfl) (cg (lE rfl rfl) rfl (cg (lE rfl rfl) rfl (cg (lE rfl rfl) (cg (lE rfl rfl) rfl (cg (qE rfl rfl) rfl (cg (qE rfl rfl) rfl (cg (qE rfl rfl) rfl (cg (qE rfl rfl) rfl rfl))))) rfl))) (cg (qE rfl rfl) (cg (lE rfl rfl) rfl (cg (lE rfl rfl) rfl (cg (lE rfl rfl) (cg (lE rfl rfl) rfl (cg (qE rfl rfl) rfl (cg (qE rfl rfl) rfl (cg (qE rfl rfl) rfl (cg (qE rfl rfl) rfl rfl))))) rfl))) (cg (qE rfl rfl) (cg (lE rfl rfl) rfl (cg (lE rfl rfl) rfl (cg (lE rfl rfl) (cg (lE rfl rfl) rfl (cg (qE rfl rfl) rfl (cg (qE rfl rfl) rfl (cg (qE rfl rfl) rfl (cg (qE rfl rfl) rfl rfl))))) rfl))) (cg (qE rfl rfl) (cg (lE rfl rfl) rfl (cg (lE rfl rfl) rfl (cg (lE rfl rfl) (cg (lE rfl rfl) rfl (cg (qE rfl rfl) rfl (cg (qE rfl rfl) rfl (cg (qE rfl rfl) rfl (cg (qE rfl rfl) rfl rfl))))) rfl))) rfl))))) rfl) rfl)) rfl)
/-! 22: phrasebook/phrasebookref48.Is -/
theorem e22_0 (v0 : D) (v1 : D) (v2 : D) (v3 : D) (v4 : D) (v5 : D) : f22_0 v0 v1 v2 v3 v4 v5 =
  cond (decide ((sl (f16_0 v0 v1 v2 v3 v4) 0).toInt = 1)) (
 cond (decide ((sl (f16_0 v0 v1 v2 v3 v4) 1).toInt < 0)) (
 .row [.int 1, (.bool false)]) (
 cond (decide ((len v5 : Int) = (len v2 : Int))) (
 f22_1 (.int 0) v0 v1 v2 v3 v4 v5) (
 .row [.int 1, (.bool false)]))) (
 .row []) :=
  (g_walk lt (T := t22) (t := t22p0) rfl rfl).trans (cg (qE rfl rfl) (cg (lE rfl rfl) rfl (cg (qE rfl rfl) rfl rfl)) rfl)
theorem e22_1 (v0 : Int) (v1 : D) (v2 : D) (v3 : D) (v4 : D) (v5 : D) (v6 : D) : f22_1 (.int v0) v1 v2 v3 v4 v5 v6 =
  cond (decide (v0 < (len v6 : Int))) (
 cond (decide (v0 < 0)) (
 .row []) (
 cond (decide ((cl v6 v0 0).toInt < 0)) (
 .row [.int 1, (.bool false)]) (
 cond (decide (v0 < (len v3 : Int))) (
 cond (decide ((cl v3 v0 1).toInt < (cl v6 v0 0).toInt)) (
 .row [.int 1, (.bool false)]) (
 f22_1 (.int (IntKind.wrap .i64 (v0 + 1))) v1 v2 v3 v4 v5 v6)) (
 .row [])))) (
 .row [.int 1, (.bool true)]) :=
  (g_walk lt (T := t22) (t := t22p1) rfl rfl).trans (cg (lE rfl rfl) (cg (lE rfl rfl) rfl (cg (lE rfl rfl) rfl (cg (lE rfl rfl) (cg (lE rfl rfl) rfl rfl) rfl))) rfl)
/-! 23: phrasebook/phrasebookref48.Is -/
theorem e23_0 (v0 : D) (v1 : D) (v2 : D) (v3 : D) (v4 : D) (v5 : D) (v6 : Bool) : f23_0 v0 v1 v2 v3 v4 v5 (.bool v6) =
  cond (decide ((sl (f16_0 v0 v1 v2 v3 v4) 0).toInt = 1)) (
 cond (decide ((sl (f16_0 v0 v1 v2 v3 v4) 1).toInt < 0)) (
 .row [.int 1, (.bool false)]) (
 cond (decide ((len v5 : Int) = (len v2 : Int))) (
 f23_1 (.int 0) v5 v0 v1 v2 v3 v4 (.bool v6)) (
 .row [.int 1, (.bool false)]))) (
 .row []) :=
  (g_walk lt (T := t23) (t := t23p0) rfl rfl).trans (cg (qE rfl rfl) (cg (lE rfl rfl) rfl (cg (qE rfl rfl) rfl rfl)) rfl)
theorem e23_1 (v0 : Int) (v1 : D) (v2 : D) (v3 : D) (v4 : D) (v5 : D) (v6 : D) (v7 : Bool) : f23_1 (.int v0) v1 v2 v3 v4 v5 v6 (.bool v7) =
  cond (decide (v0 < (len v1 : Int))) (
 cond (decide (v0 < 0)) (
 .row []) (
 cond (decide ((cl v1 v0 0).toInt < 0)) (
 .row [.int 1, (.bool false)]) (
 cond (decide (v0 < (len v4 : Int))) (
 cond (decide ((cl v4 v0 1).toInt < (cl v1 v0 0).toInt)) (
 .row [.int 1, (.bool false)]) (
 f23_1 (.int (IntKind.wrap .i64 (v0 + 1))) v1 v2 v3 v4 v5 v6 (.bool v7))) (
 .row [])))) (
 .row [.int 1, (.bool true)]) :=
  (g_walk lt (T := t23) (t := t23p1) rfl rfl).trans (cg (lE rfl rfl) (cg (lE rfl rfl) rfl (cg (lE rfl rfl) rfl (cg (lE rfl rfl) (cg (lE rfl rfl) rfl rfl) rfl))) rfl)
/-! 24: phrasebook/phrasebookref48.Apply -/
theorem e24_0 (v0 : D) (v1 : D) (v2 : D) (v3 : D) (v4 : D) (v5 : D) (v6 : D) (v7 : D) (v8 : D) (v9 : D) (v10 : D) (v11 : D) : f24_0 v0 v1 v2 v3 v4 v5 v6 v7 v8 v9 v10 v11 =
  cond (decide ((len v2 : Int) < 1048577)) (
 f24_1 (.bool false) (.int 0) v0 v1 v2 v3 v4 v5 v6 v7 v8 v9 v10 v11 (strD 0 0) (rp (len v2 : Int) (.row [(.int 0)]))) (
 .row []) :=
  (g_walk lt (T := t24) (t := t24p0) rfl rfl).trans (cg (lE rfl rfl) rfl rfl)
theorem e24_1 (v0 : Bool) (v1 : Int) (v2 : D) (v3 : D) (v4 : D) (v5 : D) (v6 : D) (v7 : D) (v8 : D) (v9 : D) (v10 : D) (v11 : D) (v12 : D) (v13 : D) (v14 : D) (v15 : D) : f24_1 (.bool v0) (.int v1) v2 v3 v4 v5 v6 v7 v8 v9 v10 v11 v12 v13 v14 v15 =
  cond (decide (v1 < (len v10 : Int))) (
 cond (decide (v1 < 0)) (
 .row []) (
 cond (D.strEq (cl v10 v1 0) v12) (
 f24_1 (.bool true) (.int (IntKind.wrap .i64 (v1 + 1))) v2 v3 v4 v5 v6 v7 v8 v9 v10 v11 v12 v13 (cl v10 v1 1) v15) (
 f24_1 (.bool v0) (.int (IntKind.wrap .i64 (v1 + 1))) v2 v3 v4 v5 v6 v7 v8 v9 v10 v11 v12 v13 v14 v15))) (
 cond (v0) (
 f24_2 (.int 0) v2 v3 v4 v5 v6 v7 v8 v9 v10 v11 v12 v13 v14 v15) (
 .row [.int 1, (strD 0 0), nilD, (.bool true), (.int 9)])) :=
  (g_walk lt (T := t24) (t := t24p1) rfl rfl).trans (cg (lE rfl rfl) (cg (lE rfl rfl) rfl (cg rfl rfl rfl)) (cg rfl rfl rfl))
theorem e24_2 (v0 : Int) (v1 : D) (v2 : D) (v3 : D) (v4 : D) (v5 : D) (v6 : D) (v7 : D) (v8 : D) (v9 : D) (v10 : D) (v11 : D) (v12 : D) (v13 : D) (v14 : D) : f24_2 (.int v0) v1 v2 v3 v4 v5 v6 v7 v8 v9 v10 v11 v12 v13 v14 =
  cond (decide (v0 < (len v10 : Int))) (
 cond (decide (v0 < 0)) (
 .row []) (
 cond (decide ((sl (f17_0 v5 v6 v7 v8 (cl v10 v0 1)) 0).toInt = 1)) (
 cond (decide ((sl (f17_0 v5 v6 v7 v8 (cl v10 v0 1)) 1).toInt < 0)) (
 cond (decide ((sl (f17_0 v1 v2 v3 v4 (cl v10 v0 0)) 0).toInt = 1)) (
 cond (decide ((sl (f17_0 v1 v2 v3 v4 (cl v10 v0 0)) 1).toInt < 0)) (
 .row []) (
 cond (decide ((sl (f17_0 v1 v2 v3 v4 (cl v10 v0 0)) 1).toInt < (len v14 : Int))) (
 f24_2 (.int (IntKind.wrap .i64 (v0 + 1))) v1 v2 v3 v4 v5 v6 v7 v8 v9 v10 v11 v12 v13 (upd v14 (sl (f17_0 v1 v2 v3 v4 (cl v10 v0 0)) 1).toInt 0 (cl v10 v0 2))) (
 .row []))) (
 .row [])) (
 cond (decide ((sl (f17_0 v5 v6 v7 v8 (cl v10 v0 1)) 1).toInt < (len v12 : Int))) (
 cond (decide ((sl (f17_0 v1 v2 v3 v4 (cl v10 v0 0)) 0).toInt = 1)) (
 cond (decide ((sl (f17_0 v1 v2 v3 v4 (cl v10 v0 0)) 1).toInt < 0)) (
 .row []) (
 cond (decide ((sl (f17_0 v1 v2 v3 v4 (cl v10 v0 0)) 1).toInt < (len v14 : Int))) (
 f24_2 (.int (IntKind.wrap .i64 (v0 + 1))) v1 v2 v3 v4 v5 v6 v7 v8 v9 v10 v11 v12 v13 (upd v14 (sl (f17_0 v1 v2 v3 v4 (cl v10 v0 0)) 1).toInt 0 (.int (IntKind.wrap .i64 ((cl v10 v0 2).toInt + (cl v12 (sl (f17_0 v5 v6 v7 v8 (cl v10 v0 1)) 1).toInt 0).toInt))))) (
 .row []))) (
 .row [])) (
 .row []))) (
 .row []))) (
 cond (decide ((sl (f23_0 v1 v2 v3 v4 v13 v14 (.bool false)) 0).toInt = 1)) (
 cond ((sl (f23_0 v1 v2 v3 v4 v13 v14 (.bool false)) 1).toBool) (
 .row [.int 1, v13, v14, (.bool false), (.int 0)]) (
 .row [.int 1, (strD 0 0), nilD, (.bool true), (.int 3)])) (
 .row [])) :=
  (g_walk lt (T := t24) (t := t24p2) rfl rfl).trans (cg (lE rfl rfl) (cg (lE rfl rfl) rfl (cg (qE rfl rfl) (cg (lE rfl rfl) (cg (qE rfl rfl) (cg (lE rfl rfl) rfl (cg (lE rfl rfl) rfl rfl)) rfl) (cg (lE rfl rfl) (cg (qE rfl rfl) (cg (lE rfl rfl) rfl (cg (lE rfl rfl) rfl rfl)) rfl) rfl)) rfl)) (cg (qE rfl rfl) (cg rfl rfl rfl) rfl))
/-! 25: phrasebook/phrasebookref48.Same -/
theorem e25_0 (v0 : D) (v1 : D) (v2 : Bool) (v3 : D) (v4 : D) (v5 : Bool) : f25_0 v0 v1 (.bool v2) v3 v4 (.bool v5) =
  cond (D.strEq v0 v3) (
 cond (decide ((len v1 : Int) = (len v4 : Int))) (
 f25_1 (.int 0) v1 v4 v0 (.bool v2) v3 (.bool v5)) (
 .row [.int 1, (.bool false)])) (
 .row [.int 1, (.bool false)]) :=
  (g_walk lt (T := t25) (t := t25p0) rfl rfl).trans (cg rfl (cg (qE rfl rfl) rfl rfl) rfl)
theorem e25_1 (v0 : Int) (v1 : D) (v2 : D) (v3 : D) (v4 : Bool) (v5 : D) (v6 : Bool) : f25_1 (.int v0) v1 v2 v3 (.bool v4) v5 (.bool v6) =
  cond (decide (v0 < (len v1 : Int))) (
 cond (decide (v0 < 0)) (
 .row []) (
 cond (decide (v0 < (len v2 : Int))) (
 cond (decide ((cl v1 v0 0).toInt = (cl v2 v0 0).toInt)) (
 f25_1 (.int (IntKind.wrap .i64 (v0 + 1))) v1 v2 v3 (.bool v4) v5 (.bool v6)) (
 .row [.int 1, (.bool false)])) (
 .row []))) (
 .row [.int 1, (.bool true)]) :=
  (g_walk lt (T := t25) (t := t25p1) rfl rfl).trans (cg (lE rfl rfl) (cg (lE rfl rfl) rfl (cg (lE rfl rfl) (cg (qE rfl rfl) rfl rfl) rfl)) rfl)
/-! 26: phrasebook/phrasebooklaw48.ConvertChecks -/
theorem e26_0 (v0 : D) (v1 : D) (v2 : D) (v3 : D) (v4 : D) (v5 : D) (v6 : D) (v7 : D) (v8 : D) (v9 : D) (v10 : D) (v11 : D) {F0 : D} {F1 : D} {F2 : D} {F3 : D} {F4 : D} {F5 : D} {F6 : D} {F7 : D} {F8 : D} {F9 : D} {F10 : D} {F11 : D} {F12 : D} {F13 : D} {F14 : D} (h0 : f19_0 v0 v1 v2 v3 v10 v11 = F0) (h1 : f21_0 v0 v1 v2 v3 v4 v5 v6 v7 v8 v9 (sl F0 1) (sl F0 2) (sl F0 3) (sl F0 4) (sl F0 5) = F1) (h2 : f24_0 v4 v5 v6 v7 v0 v1 v2 v3 v8 v9 v10 v11 = F2) (h3 : f18_0 v0 v1 v2 v3 v4 v5 v6 v7 v8 v9 = F3) (h4 : f25_0 (strD 0 0) nilD (.bool true) (strD 0 0) nilD (.bool true) = F4) (h5 : f10_0 v0 v1 v2 v3 v4 v5 v6 v7 v8 v9 = F5) (h6 : f25_0 (cl v5 (sl F1 1).toInt 0) (ad (ad (ad (ad emptyD (.row [(sl F1 2)])) (.row [(sl F1 3)])) (.row [(sl F1 4)])) (.row [(sl F1 5)])) (.bool false) (strD 0 0) nilD (.bool true) = F6) (h7 : f25_0 (cl v5 (sl F1 1).toInt 0) (ad (ad (ad emptyD (.row [(sl F1 2)])) (.row [(sl F1 3)])) (.row [(sl F1 4)])) (.bool false) (strD 0 0) nilD (.bool true) = F7) (h8 : f25_0 (cl v5 (sl F1 1).toInt 0) (ad (ad emptyD (.row [(sl F1 2)])) (.row [(sl F1 3)])) (.bool false) (strD 0 0) nilD (.bool true) = F8) (h9 : f22_0 v0 v1 v2 v3 v10 v11 = F9) (h10 : f25_0 (cl v5 (sl F1 1).toInt 0) (ad emptyD (.row [(sl F1 2)])) (.bool false) (strD 0 0) nilD (.bool true) = F10) (h11 : f25_0 (strD 0 0) nilD (.bool true) (sl F2 1) (sl F2 2) (sl F2 3) = F11) (h12 : f25_0 (cl v5 (sl F1 1).toInt 0) (ad (ad (ad (ad emptyD (.row [(sl F1 2)])) (.row [(sl F1 3)])) (.row [(sl F1 4)])) (.row [(sl F1 5)])) (.bool false) (sl F2 1) (sl F2 2) (sl F2 3) = F12) (h13 : f25_0 (cl v5 (sl F1 1).toInt 0) emptyD (.bool false) (strD 0 0) nilD (.bool true) = F13) (h14 : f25_0 (cl v5 (sl F1 1).toInt 0) (ad (ad (ad emptyD (.row [(sl F1 2)])) (.row [(sl F1 3)])) (.row [(sl F1 4)])) (.bool false) (sl F2 1) (sl F2 2) (sl F2 3) = F14) : f26_0 v0 v1 v2 v3 v4 v5 v6 v7 v8 v9 v10 v11 =
  cond (decide (8 < (len v1 : Int))) (
 cond (decide ((sl (f0_0) 0).toInt = 1)) (
 .row [.int 1, (.bool true)]) (
 .row [])) (
 cond (decide (20 < (len v3 : Int))) (
 cond (decide ((sl (f0_0) 0).toInt = 1)) (
 .row [.int 1, (.bool true)]) (
 .row [])) (
 cond (decide (5 < (len v2 : Int))) (
 cond (decide ((sl (f0_0) 0).toInt = 1)) (
 .row [.int 1, (.bool true)]) (
 .row [])) (
 cond (decide (8 < (len v5 : Int))) (
 cond (decide ((sl (f0_0) 0).toInt = 1)) (
 .row [.int 1, (.bool true)]) (
 .row [])) (
 cond (decide (20 < (len v7 : Int))) (
 cond (decide ((sl (f0_0) 0).toInt = 1)) (
 .row [.int 1, (.bool true)]) (
 .row [])) (
 cond (decide (5 < (len v6 : Int))) (
 cond (decide ((sl (f0_0) 0).toInt = 1)) (
 .row [.int 1, (.bool true)]) (
 .row [])) (
 cond (decide (30 < (len v8 : Int))) (
 cond (decide ((sl (f0_0) 0).toInt = 1)) (
 .row [.int 1, (.bool true)]) (
 .row [])) (
 cond (decide (8 < (len v9 : Int))) (
 cond (decide ((sl (f0_0) 0).toInt = 1)) (
 .row [.int 1, (.bool true)]) (
 .row [])) (
 cond (decide (10 < (len v11 : Int))) (
 cond (decide ((sl (f0_0) 0).toInt = 1)) (
 .row [.int 1, (.bool true)]) (
 .row [])) (
 cond (decide ((sl F5 0).toInt = 1)) (
 cond (decide ((sl F3 0).toInt = 1)) (
 cond (decide ((sl F5 2).toInt = 0)) (
 cond (decide ((sl F0 0).toInt = 1)) (
 cond ((sl F0 6).toBool) (
 cond (decide ((sl F1 0).toInt = 1)) (
 cond (decide ((sl F1 6).toInt = 0)) (
 cond (decide ((sl F1 1).toInt < 0)) (
 .row []) (
 cond (decide ((sl F1 1).toInt < (len v5 : Int))) (
 cond (decide ((len v6 : Int) = 0)) (
 cond (decide ((sl F5 1).toInt = (sl F3 1).toInt)) (
 cond (decide ((sl F5 2).toInt = (sl F3 2).toInt)) (
 cond (decide ((sl F3 2).toInt = 0)) (
 cond (decide ((sl F9 0).toInt = 1)) (
 cond ((sl F9 1).toBool) (
 cond (decide ((sl F2 0).toInt = 1)) (
 cond (decide ((sl (f25_0 (cl v5 (sl F1 1).toInt 0) emptyD (.bool false) (sl F2 1) (sl F2 2) (sl F2 3)) 0).toInt = 1)) (
 cond ((sl (f25_0 (cl v5 (sl F1 1).toInt 0) emptyD (.bool false) (sl F2 1) (sl F2 2) (sl F2 3)) 1).toBool) (
 cond (decide (0 = (sl F2 4).toInt)) (
 cond (decide ((sl (f0_0) 0).toInt = 1)) (
 .row [.int 1, (.bool true)]) (
 .row [])) (
 .row [.int 1, (.bool false)])) (
 .row [.int 1, (.bool false)])) (
 .row [])) (
 .row [])) (
 cond (decide ((sl F13 0).toInt = 1)) (
 cond ((sl F13 1).toBool) (
 .row [.int 1, (.bool false)]) (
 .row [.int 1, (.bool false)])) (
 .row []))) (
 .row [])) (
 cond (decide ((sl F13 0).toInt = 1)) (
 cond ((sl F13 1).toBool) (
 cond (decide (0 = (sl F3 2).toInt)) (
 cond (decide ((sl (f0_0) 0).toInt = 1)) (
 .row [.int 1, (.bool true)]) (
 .row [])) (
 .row [.int 1, (.bool false)])) (
 .row [.int 1, (.bool false)])) (
 .row []))) (
 .row [.int 1, (.bool false)])) (
 .row [.int 1, (.bool false)])) (
 cond (decide ((len v6 : Int) = 1)) (
 cond (decide ((sl F5 1).toInt = (sl F3 1).toInt)) (
 cond (decide ((sl F5 2).toInt = (sl F3 2).toInt)) (
 cond (decide ((sl F3 2).toInt = 0)) (
 cond (decide ((sl F9 0).toInt = 1)) (
 cond ((sl F9 1).toBool) (
 cond (decide ((sl F2 0).toInt = 1)) (
 cond (decide ((sl (f25_0 (cl v5 (sl F1 1).toInt 0) (ad emptyD (.row [(sl F1 2)])) (.bool false) (sl F2 1) (sl F2 2) (sl F2 3)) 0).toInt = 1)) (
 cond ((sl (f25_0 (cl v5 (sl F1 1).toInt 0) (ad emptyD (.row [(sl F1 2)])) (.bool false) (sl F2 1) (sl F2 2) (sl F2 3)) 1).toBool) (
 cond (decide (0 = (sl F2 4).toInt)) (
 cond (decide ((sl (f0_0) 0).toInt = 1)) (
 .row [.int 1, (.bool true)]) (
 .row [])) (
 .row [.int 1, (.bool false)])) (
 .row [.int 1, (.bool false)])) (
 .row [])) (
 .row [])) (
 cond (decide ((sl F10 0).toInt = 1)) (
 cond ((sl F10 1).toBool) (
 .row [.int 1, (.bool false)]) (
 .row [.int 1, (.bool false)])) (
 .row []))) (
 .row [])) (
 cond (decide ((sl F10 0).toInt = 1)) (
 cond ((sl F10 1).toBool) (
 cond (decide (0 = (sl F3 2).toInt)) (
 cond (decide ((sl (f0_0) 0).toInt = 1)) (
 .row [.int 1, (.bool true)]) (
 .row [])) (
 .row [.int 1, (.bool false)])) (
 .row [.int 1, (.bool false)])) (
 .row []))) (
 .row [.int 1, (.bool false)])) (
 .row [.int 1, (.bool false)])) (
 cond (decide ((len v6 : Int) = 2)) (
 cond (decide ((sl F5 1).toInt = (sl F3 1).toInt)) (
 cond (decide ((sl F5 2).toInt = (sl F3 2).toInt)) (
 cond (decide ((sl F3 2).toInt = 0)) (
 cond (decide ((sl F9 0).toInt = 1)) (
 cond ((sl F9 1).toBool) (
 cond (decide ((sl F2 0).toInt = 1)) (
 cond (decide ((sl (f25_0 (cl v5 (sl F1 1).toInt 0) (ad (ad emptyD (.row [(sl F1 2)])) (.row [(sl F1 3)])) (.bool false) (sl F2 1) (sl F2 2) (sl F2 3)) 0).toInt = 1)) (
 cond ((sl (f25_0 (cl v5 (sl F1 1).toInt 0) (ad (ad emptyD (.row [(sl F1 2)])) (.row [(sl F1 3)])) (.bool false) (sl F2 1) (sl F2 2) (sl F2 3)) 1).toBool) (
 cond (decide (0 = (sl F2 4).toInt)) (
 cond (decide ((sl (f0_0) 0).toInt = 1)) (
 .row [.int 1, (.bool true)]) (
 .row [])) (
 .row [.int 1, (.bool false)])) (
 .row [.int 1, (.bool false)])) (
 .row [])) (
 .row [])) (
 cond (decide ((sl F8 0).toInt = 1)) (
 cond ((sl F8 1).toBool) (
 .row [.int 1, (.bool false)]) (
 .row [.int 1, (.bool false)])) (
 .row []))) (
 .row [])) (
 cond (decide ((sl F8 0).toInt = 1)) (
 cond ((sl F8 1).toBool) (
 cond (decide (0 = (sl F3 2).toInt)) (
 cond (decide ((sl (f0_0) 0).toInt = 1)) (
 .row [.int 1, (.bool true)]) (
 .row [])) (
 .row [.int 1, (.bool false)])) (
 .row [.int 1, (.bool false)])) (
 .row []))) (
 .row [.int 1, (.bool false)])) (
 .row [.int 1, (.bool false)])) (
 cond (decide ((len v6 : Int) = 3)) (
 cond (decide ((sl F5 1).toInt = (sl F3 1).toInt)) (
 cond (decide ((sl F5 2).toInt = (sl F3 2).toInt)) (
 cond (decide ((sl F3 2).toInt = 0)) (
 cond (decide ((sl F9 0).toInt = 1)) (
 cond ((sl F9 1).toBool) (
 cond (decide ((sl F2 0).toInt = 1)) (
 cond (decide ((sl F14 0).toInt = 1)) (
 cond ((sl F14 1).toBool) (
 cond (decide (0 = (sl F2 4).toInt)) (
 cond (decide ((sl (f0_0) 0).toInt = 1)) (
 .row [.int 1, (.bool true)]) (
 .row [])) (
 .row [.int 1, (.bool false)])) (
 .row [.int 1, (.bool false)])) (
 .row [])) (
 .row [])) (
 cond (decide ((sl F7 0).toInt = 1)) (
 cond ((sl F7 1).toBool) (
 .row [.int 1, (.bool false)]) (
 .row [.int 1, (.bool false)])) (
 .row []))) (
 .row [])) (
 cond (decide ((sl F7 0).toInt = 1)) (
 cond ((sl F7 1).toBool) (
 cond (decide (0 = (sl F3 2).toInt)) (
 cond (decide ((sl (f0_0) 0).toInt = 1)) (
 .row [.int 1, (.bool true)]) (
 .row [])) (
 .row [.int 1, (.bool false)])) (
 .row [.int 1, (.bool false)])) (
 .row []))) (
 .row [.int 1, (.bool false)])) (
 .row [.int 1, (.bool false)])) (
 cond (decide ((len v6 : Int) = 4)) (
 cond (decide ((sl F5 1).toInt = (sl F3 1).toInt)) (
 cond (decide ((sl F5 2).toInt = (sl F3 2).toInt)) (
 cond (decide ((sl F3 2).toInt = 0)) (
 cond (decide ((sl F9 0).toInt = 1)) (
 cond ((sl F9 1).toBool) (
 cond (decide ((sl F2 0).toInt = 1)) (
 cond (decide ((sl F12 0).toInt = 1)) (
 cond ((sl F12 1).toBool) (
 cond (decide (0 = (sl F2 4).toInt)) (
 cond (decide ((sl (f0_0) 0).toInt = 1)) (
 .row [.int 1, (.bool true)]) (
 .row [])) (
 .row [.int 1, (.bool false)])) (
 .row [.int 1, (.bool false)])) (
 .row [])) (
 .row [])) (
 cond (decide ((sl F6 0).toInt = 1)) (
 cond ((sl F6 1).toBool) (
 .row [.int 1, (.bool false)]) (
 .row [.int 1, (.bool false)])) (
 .row []))) (
 .row [])) (
 cond (decide ((sl F6 0).toInt = 1)) (
 cond ((sl F6 1).toBool) (
 cond (decide (0 = (sl F3 2).toInt)) (
 cond (decide ((sl (f0_0) 0).toInt = 1)) (
 .row [.int 1, (.bool true)]) (
 .row [])) (
 .row [.int 1, (.bool false)])) (
 .row [.int 1, (.bool false)])) (
 .row []))) (
 .row [.int 1, (.bool false)])) (
 .row [.int 1, (.bool false)])) (
 .row [])))))) (
 .row []))) (
 cond (decide ((sl F5 1).toInt = (sl F3 1).toInt)) (
 cond (decide ((sl F5 2).toInt = (sl F3 2).toInt)) (
 cond (decide ((sl F3 2).toInt = 0)) (
 cond (decide ((sl F9 0).toInt = 1)) (
 cond ((sl F9 1).toBool) (
 cond (decide ((sl F2 0).toInt = 1)) (
 cond (decide ((sl F11 0).toInt = 1)) (
 cond ((sl F11 1).toBool) (
 cond (decide ((sl F1 6).toInt = (sl F2 4).toInt)) (
 cond (decide ((sl (f0_0) 0).toInt = 1)) (
 .row [.int 1, (.bool true)]) (
 .row [])) (
 .row [.int 1, (.bool false)])) (
 .row [.int 1, (.bool false)])) (
 .row [])) (
 .row [])) (
 cond (decide ((sl F4 0).toInt = 1)) (
 cond ((sl F4 1).toBool) (
 cond (decide ((sl F1 6).toInt = 492)) (
 cond (decide ((sl (f0_0) 0).toInt = 1)) (
 .row [.int 1, (.bool true)]) (
 .row [])) (
 .row [.int 1, (.bool false)])) (
 .row [.int 1, (.bool false)])) (
 .row []))) (
 .row [])) (
 cond (decide ((sl F4 0).toInt = 1)) (
 cond ((sl F4 1).toBool) (
 cond (decide ((sl F1 6).toInt = (sl F3 2).toInt)) (
 cond (decide ((sl (f0_0) 0).toInt = 1)) (
 .row [.int 1, (.bool true)]) (
 .row [])) (
 .row [.int 1, (.bool false)])) (
 .row [.int 1, (.bool false)])) (
 .row []))) (
 .row [.int 1, (.bool false)])) (
 .row [.int 1, (.bool false)]))) (
 .row [])) (
 cond (decide ((sl F5 1).toInt = (sl F3 1).toInt)) (
 cond (decide ((sl F5 2).toInt = (sl F3 2).toInt)) (
 cond (decide ((sl F3 2).toInt = 0)) (
 cond (decide ((sl F9 0).toInt = 1)) (
 cond ((sl F9 1).toBool) (
 cond (decide ((sl F2 0).toInt = 1)) (
 cond (decide ((sl F11 0).toInt = 1)) (
 cond ((sl F11 1).toBool) (
 cond (decide (492 = (sl F2 4).toInt)) (
 cond (decide ((sl (f0_0) 0).toInt = 1)) (
 .row [.int 1, (.bool true)]) (
 .row [])) (
 .row [.int 1, (.bool false)])) (
 .row [.int 1, (.bool false)])) (
 .row [])) (
 .row [])) (
 cond (decide ((sl F4 0).toInt = 1)) (
 cond ((sl F4 1).toBool) (
 cond (decide ((sl (f0_0) 0).toInt = 1)) (
 .row [.int 1, (.bool true)]) (
 .row [])) (
 .row [.int 1, (.bool false)])) (
 .row []))) (
 .row [])) (
 cond (decide ((sl F4 0).toInt = 1)) (
 cond ((sl F4 1).toBool) (
 cond (decide (492 = (sl F3 2).toInt)) (
 cond (decide ((sl (f0_0) 0).toInt = 1)) (
 .row [.int 1, (.bool true)]) (
 .row [])) (
 .row [.int 1, (.bool false)])) (
 .row [.int 1, (.bool false)])) (
 .row []))) (
 .row [.int 1, (.bool false)])) (
 .row [.int 1, (.bool false)]))) (
 .row [])) (
 cond (decide ((sl F5 1).toInt = (sl F3 1).toInt)) (
 cond (decide ((sl F5 2).toInt = (sl F3 2).toInt)) (
 cond (decide ((sl F3 2).toInt = 0)) (
 cond (decide ((sl F9 0).toInt = 1)) (
 cond ((sl F9 1).toBool) (
 cond (decide ((sl F2 0).toInt = 1)) (
 cond (decide ((sl F11 0).toInt = 1)) (
 cond ((sl F11 1).toBool) (
 cond (decide ((sl F5 2).toInt = (sl F2 4).toInt)) (
 cond (decide ((sl (f0_0) 0).toInt = 1)) (
 .row [.int 1, (.bool true)]) (
 .row [])) (
 .row [.int 1, (.bool false)])) (
 .row [.int 1, (.bool false)])) (
 .row [])) (
 .row [])) (
 cond (decide ((sl F4 0).toInt = 1)) (
 cond ((sl F4 1).toBool) (
 cond (decide ((sl F5 2).toInt = 492)) (
 cond (decide ((sl (f0_0) 0).toInt = 1)) (
 .row [.int 1, (.bool true)]) (
 .row [])) (
 .row [.int 1, (.bool false)])) (
 .row [.int 1, (.bool false)])) (
 .row []))) (
 .row [])) (
 cond (decide ((sl F4 0).toInt = 1)) (
 cond ((sl F4 1).toBool) (
 cond (decide ((sl (f0_0) 0).toInt = 1)) (
 .row [.int 1, (.bool true)]) (
 .row [])) (
 .row [.int 1, (.bool false)])) (
 .row []))) (
 .row [.int 1, (.bool false)])) (
 .row [.int 1, (.bool false)]))) (
 .row [])) (
 .row [])))))))))) := by
  subst h0; subst h1; subst h2; subst h3; subst h4; subst h5; subst h6; subst h7; subst h8; subst h9; subst h10; subst h11; subst h12; subst h13; subst h14; exact (g_walk lt (T := t26) (t := t26p0) rfl rfl).trans (cg (lE rfl rfl) (cg (qE rfl rfl) rfl rfl) (cg (lE rfl rfl) (cg (qE rfl rfl) rfl rfl) (cg (lE rfl rfl) (cg (qE rfl rfl) rfl rfl) (cg (lE rfl rfl) (cg (qE rfl rfl) rfl rfl) (cg (lE rfl rfl) (cg (qE rfl rfl) rfl rfl) (cg (lE rfl rfl) (cg (qE rfl rfl) rfl rfl) (cg (lE rfl rfl) (cg (qE rfl rfl) rfl rfl) (cg (lE rfl rfl) (cg (qE rfl rfl) rfl rfl) (cg (lE rfl rfl) (cg (qE rfl rfl) rfl rfl) (cg (qE rfl rfl) (cg (qE rfl rfl) (cg (qE rfl rfl) (cg (qE rfl rfl) (cg rfl (cg (qE rfl rfl) (cg (qE rfl rfl) (cg (lE rfl rfl) rfl (cg (lE rfl rfl) (cg (qE rfl rfl) (cg (qE rfl rfl) (cg (qE rfl rfl) (cg (qE rfl rfl) (cg (qE rfl rfl) (cg rfl (cg (qE rfl rfl) (cg (qE rfl rfl) (cg rfl (cg (qE rfl rfl) (cg (qE rfl rfl) rfl rfl) rfl) rfl) rfl) rfl) (cg (qE rfl rfl) (cg rfl rfl rfl) rfl)) rfl) (cg (qE rfl rfl) (cg rfl (cg (qE rfl rfl) (cg (qE rfl rfl) rfl rfl) rfl) rfl) rfl)) rfl) rfl) (cg (qE rfl rfl) (cg (qE rfl rfl) (cg (qE rfl rfl) (cg (qE rfl rfl) (cg (qE rfl rfl) (cg rfl (cg (qE rfl rfl) (cg (qE rfl rfl) (cg rfl (cg (qE rfl rfl) (cg (qE rfl rfl) rfl rfl) rfl) rfl) rfl) rfl) (cg (qE rfl rfl) (cg rfl rfl rfl) rfl)) rfl) (cg (qE rfl rfl) (cg rfl (cg (qE rfl rfl) (cg (qE rfl rfl) rfl rfl) rfl) rfl) rfl)) rfl) rfl) (cg (qE rfl rfl) (cg (qE rfl rfl) (cg (qE rfl rfl) (cg (qE rfl rfl) (cg (qE rfl rfl) (cg rfl (cg (qE rfl rfl) (cg (qE rfl rfl) (cg rfl (cg (qE rfl rfl) (cg (qE rfl rfl) rfl rfl) rfl) rfl) rfl) rfl) (cg (qE rfl rfl) (cg rfl rfl rfl) rfl)) rfl) (cg (qE rfl rfl) (cg rfl (cg (qE rfl rfl) (cg (qE rfl rfl) rfl rfl) rfl) rfl) rfl)) rfl) rfl) (cg (qE rfl rfl) (cg (qE rfl rfl) (cg (qE rfl rfl) (cg (qE rfl rfl) (cg (qE rfl rfl) (cg rfl (cg (qE rfl rfl) (cg (qE rfl rfl) (cg rfl (cg (qE rfl rfl) (cg (qE rfl rfl) rfl rfl) rfl) rfl) rfl) rfl) (cg (qE rfl rfl) (cg rfl rfl rfl) rfl)) rfl) (cg (qE rfl rfl) (cg rfl (cg (qE rfl rfl) (cg (qE rfl rfl) rfl rfl) rfl) rfl) rfl)) rfl) rfl) (cg (qE rfl rfl) (cg (qE rfl rfl) (cg (qE rfl rfl) (cg (qE rfl rfl) (cg (qE rfl rfl) (cg rfl (cg (qE rfl rfl) (cg (qE rfl rfl) (cg rfl (cg (qE rfl rfl) (cg (qE rfl rfl) rfl rfl) rfl) rfl) rfl) rfl) (cg (qE rfl rfl) (cg rfl rfl rfl) rfl)) rfl) (cg (qE rfl rfl) (cg rfl (cg (qE rfl rfl) (cg (qE rfl rfl) rfl rfl) rfl) rfl) rfl)) rfl) rfl) rfl))))) rfl)) (cg (qE rfl rfl) (cg (qE rfl rfl) (cg (qE rfl rfl) (cg (qE rfl rfl) (cg rfl (cg (qE rfl rfl) (cg (qE rfl rfl) (cg rfl (cg (qE rfl rfl) (cg (qE rfl rfl) rfl rfl) rfl) rfl) rfl) rfl) (cg (qE rfl rfl) (cg rfl (cg (qE rfl rfl) (cg (qE rfl rfl) rfl rfl) rfl) rfl) rfl)) rfl) (cg (qE rfl rfl) (cg rfl (cg (qE rfl rfl) (cg (qE rfl rfl) rfl rfl) rfl) rfl) rfl)) rfl) rfl)) rfl) (cg (qE rfl rfl) (cg (qE rfl rfl) (cg (qE rfl rfl) (cg (qE rfl rfl) (cg rfl (cg (qE rfl rfl) (cg (qE rfl rfl) (cg rfl (cg (qE rfl rfl) (cg (qE rfl rfl) rfl rfl) rfl) rfl) rfl) rfl) (cg (qE rfl rfl) (cg rfl (cg (qE rfl rfl) rfl rfl) rfl) rfl)) rfl) (cg (qE rfl rfl) (cg rfl (cg (qE rfl rfl) (cg (qE rfl rfl) rfl rfl) rfl) rfl) rfl)) rfl) rfl)) rfl) (cg (qE rfl rfl) (cg (qE rfl rfl) (cg (qE rfl rfl) (cg (qE rfl rfl) (cg rfl (cg (qE rfl rfl) (cg (qE rfl rfl) (cg rfl (cg (qE rfl rfl) (cg (qE rfl rfl) rfl rfl) rfl) rfl) rfl) rfl) (cg (qE rfl rfl) (cg rfl (cg (qE rfl rfl) (cg (qE rfl rfl) rfl rfl) rfl) rfl) rfl)) rfl) (cg (qE rfl rfl) (cg rfl (cg (qE rfl rfl) rfl rfl) rfl) rfl)) rfl) rfl)) rfl) rfl))))))))))
end
end Cv
namespace Cv
open Go Go.AE
/-! CONVERTCHECKS: names -/
theorem sAt_range (v : D) (i : Int) : 0 ≤ sAt v i ∧ sAt v i < 256 := by
  unfold sAt
  have := ((v.toStr.data.toList[i.toNat]?).getD 0).toNat_lt
  omega
theorem len_byts {v : D} : len (byts v) = slen v := by
  show (List.map _ _).length = _
  simp [slen]
theorem cl_byts {v : D} {i : Nat} (h : i < slen v) : (cl (byts v) i 0).toInt = sAt v i := by
  unfold cl sAt byts
  have h' : i < v.toStr.data.toList.length := h
  simp [D.rows, List.getD_eq_getElem?_getD, List.getElem?_eq_getElem h', D.cells, D.toInt]
theorem wrap_u8 {x : Int} (h0 : 0 ≤ x) (h1 : x < 256) : IntKind.wrap .u8 x = x := by
  simp only [IntKind.wrap, IntKind.bits, IntKind.signed]
  have := Int.emod_eq_of_lt h0 h1
  simp_all
section
variable [While]
/-- the rest of a name, from the second byte on -/
theorem name_loop {v : D} (hs : slen v ≤ 32) : ∀ (k i : Nat), i + k = slen v → 1 ≤ i → ∃ b, f1_1 (byts v) (.int (slen v : Nat)) (.int i) = .row [.int 1, .bool b] ∧ f11_1 v (.int i) = .row [.int 1, .bool b]
  | 0, i, hi, h1 => by
    refine ⟨true, ?_, ?_⟩
    · rw [e1_1, ifF (by omega)]
    · rw [e11_1, ifF (by omega)]
  | k + 1, i, hi, h1 => by
    obtain ⟨b, q1, q2⟩ := name_loop hs k (i + 1) (by omega) (by omega)
    have hr := sAt_range v i
    have hc := cl_byts (v := v) (i := i) (by omega)
    have A := e1_1 (byts v) (slen v : Nat) (i : Int)
    have B := e11_1 v (i : Int)
    rw [hc, wrap_u8 hr.1 hr.2, len_byts, wrap_i64 (by omega) (by omega), show (i : Int) + 1 = ((i + 1 : Nat) : Int) by omega, q1, ifT (by omega), ifF (by omega), ifT (by omega)] at A
    rw [wrap_i64 (by omega) (by omega), show (i : Int) + 1 = ((i + 1 : Nat) : Int) by omega, q2, ifT (by omega), ifF (by omega)] at B
    rw [A, B]
    have hi0 : decide ((i : Int) = 0) = false := decide_eq_false (by omega)
    rw [hi0]
    simp only [cond_false]
    generalize sAt v i = c
    by_cases c1 : c < 97
    · simp only [ifT c1]
      by_cases c2 : c < 65
      · simp only [ifT c2]
        by_cases c3 : c < 48
        · simp only [ifT c3]; exact ⟨_, rfl, rfl⟩
        · simp only [ifF c3]
          by_cases c4 : 57 < c
          · simp only [ifT c4]; exact ⟨_, rfl, rfl⟩
          · simp only [ifF c4]; exact ⟨_, rfl, rfl⟩
      · simp only [ifF c2]
        by_cases c3 : 90 < c
        · simp only [ifT c3]
          by_cases c4 : c = 95
          · simp only [ifT c4]; exact ⟨_, rfl, rfl⟩
          · simp only [ifF c4]; exact ⟨_, rfl, rfl⟩
        · simp only [ifF c3]; exact ⟨_, rfl, rfl⟩
    · simp only [ifF c1]
      by_cases c2 : 122 < c
      · simp only [ifT c2]; exact ⟨_, by cases decide ((i : Int) = 0) <;> rfl, rfl⟩
      · simp only [ifF c2]; exact ⟨_, rfl, rfl⟩
/-- is it a name? both say the same -/
theorem name_eq (v : D) : ∃ b, f1_0 v = .row [.int 1, .bool b] ∧ f11_0 v = .row [.int 1, .bool b] := by
  rw [e1_0, e11_0]
  by_cases c1 : (slen v : Int) < 1
  · simp only [ifT c1]; exact ⟨_, rfl, rfl⟩
  simp only [ifF c1]
  by_cases c2 : 32 < (slen v : Int)
  · simp only [ifT c2]; exact ⟨_, rfl, rfl⟩
  simp only [ifF c2]
  obtain ⟨b, q1, q2⟩ := name_loop (v := v) (by omega) (slen v - 1) 1 (by omega) (Nat.le_refl _)
  have hr := sAt_range v (0 : Nat)
  have hc := cl_byts (v := v) (i := 0) (by omega)
  have A := e1_1 (byts v) (slen v : Nat) ((0 : Nat) : Int)
  have B := e11_1 v ((0 : Nat) : Int)
  rw [hc, wrap_u8 hr.1 hr.2, len_byts, wrap_i64 (by omega) (by omega), show ((0 : Nat) : Int) + 1 = ((1 : Nat) : Int) by omega, q1, ifT (by omega), ifF (by omega), ifT (by omega)] at A
  rw [wrap_i64 (by omega) (by omega), show ((0 : Nat) : Int) + 1 = ((1 : Nat) : Int) by omega, q2, ifT (by omega), ifF (by omega)] at B
  have z : ((0 : Nat) : Int) = 0 := rfl
  rw [z] at A B hr
  rw [len_byts, A, B]
  generalize sAt v 0 = c
  have hi0 : decide ((0 : Int) = 0) = true := rfl
  rw [hi0]
  simp only [cond_true]
  by_cases c3 : c = 95
  · subst c3
    exact ⟨false, rfl, rfl⟩
  simp only [ifF c3]
  by_cases c4 : c < 97
  · simp only [ifT c4]
    by_cases c5 : c < 65
    · simp only [ifT c5]
      by_cases c6 : c < 48
      · simp only [ifT c6]; exact ⟨_, rfl, rfl⟩
      · simp only [ifF c6]
        by_cases c7 : 57 < c
        · simp only [ifT c7]; exact ⟨_, rfl, rfl⟩
        · simp only [ifF c7]; exact ⟨_, rfl, rfl⟩
    · have c6 : ¬ c < 48 := by omega
      have c7 : 57 < c := by omega
      simp only [ifF c5, ifF c6, ifT c7]
      by_cases c8 : 90 < c
      · simp only [ifT c8]; exact ⟨_, rfl, rfl⟩
      · simp only [ifF c8]; exact ⟨_, rfl, rfl⟩
  · have c6 : ¬ c < 48 := by omega
    have c7 : 57 < c := by omega
    simp only [ifF c4, ifF c6, ifT c7]
    by_cases c5 : 122 < c
    · simp only [ifT c5]; exact ⟨_, rfl, rfl⟩
    · simp only [ifF c5]; exact ⟨_, rfl, rfl⟩
end
end Cv
namespace Cv
open Go Go.AE
/-! CONVERTCHECKS: finding by name; roles -/
/-- the first row whose first cell is a text, or -1 -/
def fd (l key : D) : Int := fdG (fun j => D.strEq (cl l j 0) key) (len l) 0
theorem fd_lt {l key : D} : fd l key < len l := by
  have := fdG_lt (p := fun j => D.strEq (cl l j 0) key) (k := len l) (i := 0)
  unfold fd; omega
theorem fd_ge {l key : D} : fd l key = -1 ∨ 0 ≤ fd l key := by
  have := fdG_ge (p := fun j => D.strEq (cl l j 0) key) (k := len l) (i := 0)
  unfold fd; omega
theorem fd_self {l : D} {i : Nat} (h : i < len l) : 0 ≤ fd l (cl l i 0) ∧ fd l (cl l i 0) ≤ i := fdG_le (p := fun j => D.strEq (cl l j 0) (cl l i 0)) (Nat.zero_le _) (by omega) strEqD_refl
theorem fd_is {l key : D} (h : 0 ≤ fd l key) : D.strEq (cl l (fd l key) 0) key = true := by
  have := fdG_is (p := fun j => D.strEq (cl l j 0) key) (k := len l) (i := 0) h
  have e : ((fd l key).toNat : Int) = fd l key := by omega
  rw [← e]
  exact this
theorem find_form {F : Int → D} {l key : D} (hn : len l < 4611686018427387904) (h : ∀ i : Int, F i = cond (decide (i < (len l : Int))) (cond (decide (i < 0)) (.row []) (cond (D.strEq (cl l i 0) key) (.row [.int 1, .int i]) (F (IntKind.wrap .i64 (i + 1))))) (.row [.int 1, .int (-1)])) : F 0 = .row [.int 1, .int (fd l key)] := by
  refine find (F := fun i => F (i : Int)) (n := len l) (bad := fun j => D.strEq (cl l j 0) key) (fun j hj => ?_) ?_
  · show F (j : Int) = _
    rw [h, ifT (by omega), ifF (by omega), wrapN (by omega)]
  · show F (len l : Int) = _
    rw [h, ifF (by omega)]
section
variable [While]
variable {v0 v1 v2 v3 v4 v5 : D}
theorem f2_is (hn : len v0 < 4611686018427387904) (k : D) : f2_0 v0 k = .row [.int 1, .int (fd v0 k)] := (e2_0 ..).trans (find_form (F := fun i => f2_1 v0 (.int i) k) hn fun i => e2_1 ..)
theorem f4_is (hn : len v0 < 4611686018427387904) (k : D) : f4_0 v0 k = .row [.int 1, .int (fd v0 k)] := (e4_0 ..).trans (find_form (F := fun i => f4_1 v0 (.int i) k) hn fun i => e4_1 ..)
theorem f8_is (hn : len v0 < 4611686018427387904) (k : D) : f8_0 v0 k = .row [.int 1, .int (fd v0 k)] := (e8_0 ..).trans (find_form (F := fun i => f8_1 v0 (.int i) k) hn fun i => e8_1 ..)
theorem f9_is (hn : len v0 < 4611686018427387904) (k : D) : f9_0 v0 k = .row [.int 1, .int (fd v0 k)] := (e9_0 ..).trans (find_form (F := fun i => f9_1 v0 (.int i) k) hn fun i => e9_1 ..)
theorem f12_is (hn : len v2 < 4611686018427387904) (k : D) : f12_0 v0 v1 v2 v3 k = .row [.int 1, .int (fd v2 k)] := (e12_0 ..).trans (find_form (F := fun i => f12_1 k (.int i) v0 v1 v2 v3) hn fun i => e12_1 ..)
theorem f13_is (hn : len v1 < 4611686018427387904) (k : D) : f13_0 v0 v1 v2 v3 k = .row [.int 1, .int (fd v1 k)] := (e13_0 ..).trans (find_form (F := fun i => f13_1 k (.int i) v0 v1 v2 v3) hn fun i => e13_1 ..)
theorem f16_is (hn : len v1 < 4611686018427387904) (k : D) : f16_0 v0 v1 v2 v3 k = .row [.int 1, .int (fd v1 k)] := (e16_0 ..).trans (find_form (F := fun i => f16_1 k (.int i) v0 v1 v2 v3) hn fun i => e16_1 ..)
theorem f17_is (hn : len v2 < 4611686018427387904) (k : D) : f17_0 v0 v1 v2 v3 k = .row [.int 1, .int (fd v2 k)] := (e17_0 ..).trans (find_form (F := fun i => f17_1 k (.int i) v0 v1 v2 v3) hn fun i => e17_1 ..)
/-- is a text a name -/
def nm (v : D) : Bool := (sl (f11_0 v) 1).toBool
theorem f1_is (v : D) : f1_0 v = .row [.int 1, .bool (nm v)] := by
  obtain ⟨b, q1, q2⟩ := name_eq v
  rw [q1]
  unfold nm
  rw [q2]
  rfl
theorem f11_is (v : D) : f11_0 v = .row [.int 1, .bool (nm v)] := by
  obtain ⟨b, q1, q2⟩ := name_eq v
  unfold nm
  rw [q2]
  rfl
/-- what is wrong with a counter -/
def badC (v2 : D) (i : Nat) : Bool := !nm (cl v2 i 0) || decide (fd v2 (cl v2 i 0) < i) || decide ((cl v2 i 1).toInt < 1) || decide (1000 < (cl v2 i 1).toInt)
/-- what is wrong with a state -/
def badS (v1 : D) (i : Nat) : Bool := !nm (cl v1 i 0) || decide (fd v1 (cl v1 i 0) < i) || decide ((cl v1 i 2).toInt < 0) || decide (1048576 < (cl v1 i 2).toInt)
theorem f3_is (hn : len v2 < 1000) (v0 v1 v3 : D) : f3_0 (.int (len v2 : Nat)) (.int 0) (.int 4) v0 v1 v2 v3 = .row [.int 1, .int (cond (decide (4 < (len v2 : Int))) 4 (fdG (badC v2) (len v2) 0))] := by
  rw [e3_0, ifF (by omega)]
  by_cases c : 4 < (len v2 : Int)
  · rw [ifT c, ifT c]
  rw [ifF c, ifF c]
  refine find (F := fun i => f3_1 (.int (len v2 : Nat)) (.int (i : Nat)) v0 v1 v2 v3) (n := len v2) (bad := badC v2) (fun j hj => ?_) ?_
  · show f3_1 _ (.int (j : Nat)) _ _ _ _ = _
    rw [e3_1, ifT (by omega), ifF (by omega), ifT (by omega)]
    simp only [f1_is, f2_is (v0 := v2) (by omega), sl_row0, sl_rowS, toInt_int, toBool_bool, decide_true, cond_true, wrapN (i := j) (by omega)]
    unfold badC
    cases nm (cl v2 j 0) <;> cases decide (fd v2 (cl v2 j 0) < j) <;> cases decide ((cl v2 j 1).toInt < 1) <;> cases decide (1000 < (cl v2 j 1).toInt) <;> rfl
  · show f3_1 _ (.int (len v2 : Nat)) _ _ _ _ = _
    rw [e3_1, ifF (by omega)]
theorem f5_is (hn : len v1 < 1000) (v0 v2 v3 : D) : f5_0 (.int (len v1 : Nat)) (.int 1) (.int 24) v0 v1 v2 v3 = .row [.int 1, .int (cond (decide ((len v1 : Int) < 1)) 0 (cond (decide (24 < (len v1 : Int))) 24 (fdG (badS v1) (len v1) 0)))] := by
  rw [e5_0]
  by_cases c : (len v1 : Int) < 1
  · rw [ifT c, ifT c]
  rw [ifF c, ifF c]
  by_cases c : 24 < (len v1 : Int)
  · rw [ifT c, ifT c]
  rw [ifF c, ifF c]
  refine find (F := fun i => f5_1 (.int (len v1 : Nat)) (.int (i : Nat)) v0 v1 v2 v3) (n := len v1) (bad := badS v1) (fun j hj => ?_) ?_
  · show f5_1 _ (.int (j : Nat)) _ _ _ _ = _
    rw [e5_1, ifT (by omega), ifF (by omega), ifT (by omega)]
    simp only [f1_is, f4_is (v0 := v1) (by omega), sl_row0, sl_rowS, toInt_int, toBool_bool, decide_true, cond_true, wrapN (i := j) (by omega)]
    unfold badS
    cases nm (cl v1 j 0) <;> cases decide (fd v1 (cl v1 j 0) < j) <;> cases decide ((cl v1 j 2).toInt < 0) <;> cases decide (1048576 < (cl v1 j 2).toInt) <;> rfl
  · show f5_1 _ (.int (len v1 : Nat)) _ _ _ _ = _
    rw [e5_1, ifF (by omega)]
end
end Cv
namespace Cv
open Go Go.AE
/-! CONVERTCHECKS: steps of a role -/
/-- are two steps the same -/
def sameS (v3 : D) (i j : Nat) : Bool := D.strEq (cl v3 j 0) (cl v3 i 0) && (D.strEq (cl v3 j 1) (cl v3 i 1) && (decide ((cl v3 j 2).toInt = (cl v3 i 2).toInt) && (D.strEq (cl v3 j 3) (cl v3 i 3) && (D.strEq (cl v3 j 4) (cl v3 i 4) && (D.strEq (cl v3 j 5) (cl v3 i 5) && (decide ((cl v3 j 6).toInt = (cl v3 i 6).toInt) && (decide ((cl v3 j 7).toInt = (cl v3 i 7).toInt) && decide ((cl v3 j 8).toInt = (cl v3 i 8).toInt))))))))
/-- is there the same step before -/
def dup (v3 : D) (i : Nat) : Bool := !decide (fdG (sameS v3 i) i 0 < 0)
/-- is what a step says of its counter wrong -/
def badG (v2 v3 : D) (i : Nat) : Bool := cond (eqC (cl v3 i 5) 0 0) (cond (decide ((cl v3 i 6).toInt = 0)) (cond (decide ((cl v3 i 7).toInt = 0)) (cond (decide ((cl v3 i 8).toInt = 0)) false true) true) true)
  (cond (decide (fd v2 (cl v3 i 5) < 0)) true (cond (decide ((cl v3 i 6).toInt < 0)) true (cond (decide ((cl v3 i 7).toInt < (cl v3 i 6).toInt)) true (cond (decide ((cl v3 i 8).toInt < (-1000))) true (cond (decide (1000 < (cl v3 i 8).toInt)) true
    (cond (decide ((cl v2 (fd v2 (cl v3 i 5)) 1).toInt < (cl v3 i 7).toInt)) true (cond (decide (IntKind.wrap .i64 ((cl v3 i 6).toInt + (cl v3 i 8).toInt) < 0)) true (cond (decide ((cl v2 (fd v2 (cl v3 i 5)) 1).toInt < IntKind.wrap .i64 ((cl v3 i 7).toInt + (cl v3 i 8).toInt))) true false))))))))
/-- the steps have numbers where numbers stand, and short texts -/
def StepOk (v3 : D) : Prop := ∀ i : Nat, i < len v3 → (∃ n, cl v3 i 2 = .int n) ∧ (∃ n, cl v3 i 6 = .int n) ∧ (∃ n, cl v3 i 7 = .int n) ∧ (∃ n, cl v3 i 8 = .int n) ∧ slen (cl v3 i 3) < 4611686018427387904 ∧ slen (cl v3 i 4) < 4611686018427387904
section
variable [While]
/-- is what a step says of its message and its peer wrong -/
def badK (v0 v1 v3 : D) (i : Nat) : Bool := cond (decide ((cl v3 i 2).toInt = 1)) (cond (nm (cl v3 i 3)) (cond (nm (cl v3 i 4)) (D.strEq (cl v3 i 4) v0) true) true)
  (cond (decide ((cl v3 i 2).toInt = 2)) (cond (nm (cl v3 i 3)) (cond (nm (cl v3 i 4)) (D.strEq (cl v3 i 4) v0) true) true)
  (cond (decide ((cl v3 i 2).toInt = 3)) (cond (eqC (cl v3 i 3) 0 0) (cond (eqC (cl v3 i 4) 0 0) (!decide (0 < (cl v1 (fd v1 (cl v3 i 0)) 2).toInt)) true) true)
  (cond (decide ((cl v3 i 2).toInt = 4)) (cond (eqC (cl v3 i 3) 0 0) (cond (eqC (cl v3 i 4) 0 0) false true) true) true)))
/-- is a step wrong -/
def badT (v0 v1 v2 v3 : D) (i : Nat) : Bool := decide (fd v1 (cl v3 i 0) < 0) || (decide (fd v1 (cl v3 i 1) < 0) || (dup v3 i || (badK v0 v1 v3 i || badG v2 v3 i)))
variable {v0 v1 v2 v3 : D}
theorem f6_is (hs : StepOk v3) (hn : len v3 < 1000) {i : Nat} (hi : i < len v3) : ∃ n : Int, f6_0 (sb v3 0 i) (cl v3 i 0) (cl v3 i 1) (cl v3 i 2) (cl v3 i 3) (cl v3 i 4) (cl v3 i 5) (cl v3 i 6) (cl v3 i 7) (cl v3 i 8) = .row [.int 1, .int n] ∧ decide (n < 0) = !dup v3 i := by
  obtain ⟨⟨n2, h2⟩, ⟨n6, h6⟩, ⟨n7, h7⟩, ⟨n8, h8⟩, _⟩ := hs i hi
  refine ⟨fdG (sameS v3 i) i 0, ?_, by unfold dup; rw [Bool.not_not]⟩
  have hl : len (sb v3 0 i) = i := by
    have := len_sb (a := v3) (lo := 0) (hi := (i : Int)) (by omega) (by omega)
    omega
  rw [h2, h6, h7, h8, e6_0]
  refine find (F := fun j => f6_1 (sb v3 0 i) (.int (j : Nat)) (cl v3 i 0) (cl v3 i 1) (.int n2) (cl v3 i 3) (cl v3 i 4) (cl v3 i 5) (.int n6) (.int n7) (.int n8)) (n := i) (bad := sameS v3 i) (fun j hj => ?_) ?_
  · show f6_1 (sb v3 0 i) (.int (j : Nat)) (cl v3 i 0) (cl v3 i 1) (.int n2) (cl v3 i 3) (cl v3 i 4) (cl v3 i 5) (.int n6) (.int n7) (.int n8) = _
    rw [e6_1, hl, ifT (by omega), ifF (by omega), wrapN (by omega)]
    simp only [cl_sb (a := v3) (i := i) (j := j) (by omega) hj]
    have e : (D.strEq (cl v3 i 0) (cl v3 j 0) && (D.strEq (cl v3 i 1) (cl v3 j 1) && (decide (n2 = (cl v3 j 2).toInt) && (D.strEq (cl v3 i 3) (cl v3 j 3) && (D.strEq (cl v3 i 4) (cl v3 j 4) && (D.strEq (cl v3 i 5) (cl v3 j 5) && (decide (n6 = (cl v3 j 6).toInt) && (decide (n7 = (cl v3 j 7).toInt) && decide (n8 = (cl v3 j 8).toInt))))))))) = sameS v3 i j := by
      unfold sameS
      rw [h2, h6, h7, h8]
      simp only [toInt_int]
      rw [strEqD_comm (a := cl v3 i 0), strEqD_comm (a := cl v3 i 1), strEqD_comm (a := cl v3 i 3), strEqD_comm (a := cl v3 i 4), strEqD_comm (a := cl v3 i 5)]
      rw [dComm (x := n2), dComm (x := n6), dComm (x := n7), dComm (x := n8)]
      rfl
    rw [e]
  · show f6_1 (sb v3 0 i) (.int (i : Nat)) (cl v3 i 0) (cl v3 i 1) (.int n2) (cl v3 i 3) (cl v3 i 4) (cl v3 i 5) (.int n6) (.int n7) (.int n8) = _
    rw [e6_1, hl, ifF (by omega)]
theorem f7_step (hs : StepOk v3) (hn : len v3 < 1000) (hn1 : len v1 < 1000) (hn2 : len v2 < 1000) {i : Nat} (hi : i < len v3) : f7_1 (.int (len v3 : Nat)) (.int (i : Nat)) v0 v1 v2 v3 = cond (badT v0 v1 v2 v3 i) (.row [.int 1, .int (i : Nat)]) (f7_1 (.int (len v3 : Nat)) (.int (i + 1 : Nat)) v0 v1 v2 v3) := by
  obtain ⟨n, h6, hd⟩ := f6_is hs hn hi
  obtain ⟨_, _, _, _, h3, h4⟩ := hs i hi
  rw [e7_1 (h0 := rfl) (h1 := rfl) (h2 := rfl), ifT (by omega), ifF (by omega), ifT (by omega)]
  have a1 := fd_lt (l := v1) (key := cl v3 i 0)
  have a2 := fd_lt (l := v2) (key := cl v3 i 5)
  have d1 : decide ((slen (cl v3 i 3) : Int) < 4611686018427387904) = true := decide_eq_true (by omega)
  have d2 : decide ((slen (cl v3 i 4) : Int) < 4611686018427387904) = true := decide_eq_true (by omega)
  have d3 : decide ((len v3 : Int) < i) = false := decide_eq_false (by omega)
  simp only [h6, hd, f1_is, f2_is (v0 := v2) (by omega), f4_is (v0 := v1) (by omega), sl_row0, sl_rowS, toInt_int, toBool_bool, decide_true, cond_true, cond_false, wrapN (i := i) (by omega), decide_eq_true a1, decide_eq_true a2, d1, d2, d3, sCat_empty]
  unfold badT badK
  generalize f7_1 (.int (len v3 : Nat)) (.int (i + 1 : Nat)) v0 v1 v2 v3 = X
  generalize hY : (D.row [.int 1, .int (i : Nat)]) = Y
  cases decide (fd v1 (cl v3 i 0) < 0) <;> cases decide (fd v1 (cl v3 i 1) < 0) <;> cases dup v3 i <;> simp only [cond_true, cond_false, Bool.true_or, Bool.false_or, Bool.not_true, Bool.not_false, Bool.cond_self]
  unfold badG
  by_cases k1 : (cl v3 i 2).toInt = 1
  · simp only [ifT k1]
    cases nm (cl v3 i 3) <;> cases nm (cl v3 i 4) <;> cases D.strEq (cl v3 i 4) v0 <;> simp only [cond_true, cond_false, Bool.true_or, Bool.false_or]
    repeat' (refine cSplit (fun h => ?_) (fun h => ?_)) <;> simp only [*, cond_true, cond_false]
  simp only [ifF k1]
  by_cases k2 : (cl v3 i 2).toInt = 2
  · simp only [ifT k2]
    cases nm (cl v3 i 3) <;> cases nm (cl v3 i 4) <;> cases D.strEq (cl v3 i 4) v0 <;> simp only [cond_true, cond_false, Bool.true_or, Bool.false_or]
    repeat' (refine cSplit (fun h => ?_) (fun h => ?_)) <;> simp only [*, cond_true, cond_false]
  simp only [ifF k2]
  by_cases k3 : (cl v3 i 2).toInt = 3
  · simp only [ifT k3]
    cases eqC (cl v3 i 3) 0 0 <;> cases eqC (cl v3 i 4) 0 0 <;> cases decide (0 < (cl v1 (fd v1 (cl v3 i 0)) 2).toInt) <;> simp only [cond_true, cond_false, Bool.true_or, Bool.false_or, Bool.and_true, Bool.true_and, Bool.and_false, Bool.false_and, Bool.not_true, Bool.not_false]
    repeat' (refine cSplit (fun h => ?_) (fun h => ?_)) <;> simp only [*, cond_true, cond_false]
  simp only [ifF k3]
  by_cases k4 : (cl v3 i 2).toInt = 4
  · simp only [ifT k4]
    cases eqC (cl v3 i 3) 0 0 <;> cases eqC (cl v3 i 4) 0 0 <;> simp only [cond_true, cond_false, Bool.true_or, Bool.false_or, Bool.and_true, Bool.true_and, Bool.and_false, Bool.false_and, Bool.not_true, Bool.not_false]
    repeat' (refine cSplit (fun h => ?_) (fun h => ?_)) <;> simp only [*, cond_true, cond_false]
  simp only [ifF k4, cond_true, Bool.true_or]
theorem f7_is (hs : StepOk v3) (hn : len v3 < 1000) (hn1 : len v1 < 1000) (hn2 : len v2 < 1000) (v0 : D) : f7_0 (.int (len v3 : Nat)) (.int 0) (.int 80) v0 v1 v2 v3 = .row [.int 1, .int (cond (decide (80 < (len v3 : Int))) 80 (fdG (badT v0 v1 v2 v3) (len v3) 0))] := by
  rw [e7_0, ifF (by omega)]
  by_cases c : 80 < (len v3 : Int)
  · rw [ifT c, ifT c]
  rw [ifF c, ifF c]
  refine find (F := fun i => f7_1 (.int (len v3 : Nat)) (.int (i : Nat)) v0 v1 v2 v3) (n := len v3) (bad := badT v0 v1 v2 v3) (fun j hj => f7_step hs hn hn1 hn2 hj) ?_
  show f7_1 _ (.int (len v3 : Nat)) _ _ _ _ = _
  rw [e7_1 (h0 := rfl) (h1 := rfl) (h2 := rfl), ifF (by omega)]
/-- the loop that looks for the same step, and what comes after it -/
theorem f14_loop (hs : StepOk v3) (hn : len v3 < 1000) (hn1 : len v1 < 1000) (hn2 : len v2 < 1000) {i : Nat} (hi : i < len v3) (hf : 0 ≤ fd v1 (cl v3 i 0)) : f14_1 (.int (i : Nat)) (.int (fd v1 (cl v3 i 0))) (.int 0) v0 v1 v2 v3 (cl v3 i 0) (cl v3 i 1) (cl v3 i 2) (cl v3 i 3) (cl v3 i 4) (cl v3 i 5) (cl v3 i 6) (cl v3 i 7) (cl v3 i 8) = .row [.int 1, .bool (!(dup v3 i || badK v0 v1 v3 i))] := by
  obtain ⟨⟨n2, h2⟩, ⟨n6, h6⟩, ⟨n7, h7⟩, ⟨n8, h8⟩, h3, h4⟩ := hs i hi
  have L := look (F := fun j => f14_1 (.int (i : Nat)) (.int (fd v1 (cl v3 i 0))) (.int (j : Nat)) v0 v1 v2 v3 (cl v3 i 0) (cl v3 i 1) (cl v3 i 2) (cl v3 i 3) (cl v3 i 4) (cl v3 i 5) (cl v3 i 6) (cl v3 i 7) (cl v3 i 8)) (n := i) (bad := sameS v3 i) (B := fun _ => .row [.int 1, .bool false]) (fun j hj => by
    show f14_1 (.int (i : Nat)) (.int (fd v1 (cl v3 i 0))) (.int (j : Nat)) v0 v1 v2 v3 (cl v3 i 0) (cl v3 i 1) (cl v3 i 2) (cl v3 i 3) (cl v3 i 4) (cl v3 i 5) (cl v3 i 6) (cl v3 i 7) (cl v3 i 8) = cond _ _ (f14_1 (.int (i : Nat)) (.int (fd v1 (cl v3 i 0))) (.int (j + 1 : Nat)) v0 v1 v2 v3 (cl v3 i 0) (cl v3 i 1) (cl v3 i 2) (cl v3 i 3) (cl v3 i 4) (cl v3 i 5) (cl v3 i 6) (cl v3 i 7) (cl v3 i 8))
    have e : (D.strEq (cl v3 j 0) (cl v3 i 0) && (D.strEq (cl v3 j 1) (cl v3 i 1) && (decide ((cl v3 j 2).toInt = n2) && (D.strEq (cl v3 j 3) (cl v3 i 3) && (D.strEq (cl v3 j 4) (cl v3 i 4) && (D.strEq (cl v3 j 5) (cl v3 i 5) && (decide ((cl v3 j 6).toInt = n6) && (decide ((cl v3 j 7).toInt = n7) && decide ((cl v3 j 8).toInt = n8))))))))) = sameS v3 i j := by
      unfold sameS
      rw [h2, h6, h7, h8]
      rfl
    rw [← e, h2, h6, h7, h8, e14_1, ifT (by omega), ifF (by omega), ifT (by omega), wrapN (by omega)])
  have L : f14_1 (.int (i : Nat)) (.int (fd v1 (cl v3 i 0))) (.int 0) v0 v1 v2 v3 (cl v3 i 0) (cl v3 i 1) (cl v3 i 2) (cl v3 i 3) (cl v3 i 4) (cl v3 i 5) (cl v3 i 6) (cl v3 i 7) (cl v3 i 8) = cond (decide (fdG (sameS v3 i) i 0 < 0)) (f14_1 (.int (i : Nat)) (.int (fd v1 (cl v3 i 0))) (.int (i : Nat)) v0 v1 v2 v3 (cl v3 i 0) (cl v3 i 1) (cl v3 i 2) (cl v3 i 3) (cl v3 i 4) (cl v3 i 5) (cl v3 i 6) (cl v3 i 7) (cl v3 i 8)) (.row [.int 1, .bool false]) := L
  rw [L]
  have e : decide (fdG (sameS v3 i) i 0 < 0) = !dup v3 i := by unfold dup; rw [Bool.not_not]
  rw [e]
  cases dup v3 i
  · show f14_1 (.int (i : Nat)) (.int (fd v1 (cl v3 i 0))) (.int (i : Nat)) v0 v1 v2 v3 (cl v3 i 0) (cl v3 i 1) (cl v3 i 2) (cl v3 i 3) (cl v3 i 4) (cl v3 i 5) (cl v3 i 6) (cl v3 i 7) (cl v3 i 8) = .row [.int 1, .bool (!badK v0 v1 v3 i)]
    have a1 := fd_lt (l := v1) (key := cl v3 i 0)
    have t2 : (cl v3 i 2).toInt = n2 := by rw [h2]; rfl
    have R : f14_1 (.int (i : Nat)) (.int (fd v1 (cl v3 i 0))) (.int (i : Nat)) v0 v1 v2 v3 (cl v3 i 0) (cl v3 i 1) (.int n2) (cl v3 i 3) (cl v3 i 4) (cl v3 i 5) (.int n6) (.int n7) (.int n8) = .row [.int 1, .bool (!badK v0 v1 v3 i)] := by
      rw [e14_1, ifF (by omega)]
      simp only [f11_is, sl_row0, sl_rowS, toInt_int, toBool_bool, decide_true, cond_true, decide_eq_true a1, decide_eq_false (show ¬ fd v1 (cl v3 i 0) < 0 by omega), cond_false]
      unfold badK
      by_cases k1 : n2 = 1
      · rw [ifT k1, ifT (t2.trans k1)]
        cases nm (cl v3 i 3) <;> cases nm (cl v3 i 4) <;> rfl
      rw [ifF k1, ifF (p := (cl v3 i 2).toInt = 1) (by omega)]
      by_cases k2 : n2 = 2
      · rw [ifT k2, ifT (t2.trans k2)]
        cases nm (cl v3 i 3) <;> cases nm (cl v3 i 4) <;> rfl
      rw [ifF k2, ifF (p := (cl v3 i 2).toInt = 2) (by omega)]
      by_cases k3 : n2 = 3
      · rw [ifT k3, ifT (t2.trans k3)]
        cases eqC (cl v3 i 3) 0 0 <;> cases eqC (cl v3 i 4) 0 0 <;> simp only [cond_true, cond_false, Bool.not_true, Bool.not_false, Bool.not_not]
      rw [ifF k3, ifF (p := (cl v3 i 2).toInt = 3) (by omega)]
      by_cases k4 : n2 = 4
      · rw [ifT k4, ifT (t2.trans k4)]
        cases eqC (cl v3 i 3) 0 0 <;> cases eqC (cl v3 i 4) 0 0 <;> rfl
      rw [ifF k4, ifF (p := (cl v3 i 2).toInt = 4) (by omega)]
      rfl
    rw [h2, h6, h7, h8]
    exact R
  · rfl
/-- the document's word on a step -/
theorem f14_is (hs : StepOk v3) (hn : len v3 < 1000) (hn1 : len v1 < 1000) (hn2 : len v2 < 1000) {i : Nat} (hi : i < len v3) : f14_0 v0 v1 v2 v3 (.int (i : Nat)) = .row [.int 1, .bool (!badT v0 v1 v2 v3 i)] := by
  rw [e14_0, ifF (by omega), ifT (by omega)]
  have a1 := fd_lt (l := v1) (key := cl v3 i 0)
  have a2 := fd_lt (l := v2) (key := cl v3 i 5)
  simp only [f12_is (v0 := v0) (v1 := v1) (v2 := v2) (v3 := v3) (by omega), f13_is (v0 := v0) (v1 := v1) (v2 := v2) (v3 := v3) (by omega), sl_row0, sl_rowS, toInt_int, toBool_bool, decide_true, cond_true, decide_eq_true a2]
  unfold badT
  by_cases c : fd v1 (cl v3 i 0) < 0
  · rw [ifT c, decide_eq_true c]; rfl
  rw [ifF c, decide_eq_false c, f14_loop hs hn hn1 hn2 hi (by omega)]
  unfold badG
  cases decide (fd v1 (cl v3 i 1) < 0) <;> cases dup v3 i <;> cases badK v0 v1 v3 i <;> simp only [cond_true, cond_false, Bool.true_or, Bool.false_or, Bool.not_true, Bool.not_false]
  all_goals (repeat' (refine cSplit (fun h => ?_) (fun h => ?_))) <;> simp only [*, cond_true, cond_false, Bool.not_true, Bool.not_false, Bool.cond_self]
end
end Cv
namespace Cv
open Go Go.AE
/-! CONVERTCHECKS: which roles are right -/
section
variable [While]
variable {v0 v1 v2 v3 : D}
def fewC (v2 : D) : Int := cond (decide (4 < (len v2 : Int))) 4 (fdG (badC v2) (len v2) 0)
def fewS (v1 : D) : Int := cond (decide ((len v1 : Int) < 1)) 0 (cond (decide (24 < (len v1 : Int))) 24 (fdG (badS v1) (len v1) 0))
def fewT (v0 v1 v2 v3 : D) : Int := cond (decide (80 < (len v3 : Int))) 80 (fdG (badT v0 v1 v2 v3) (len v3) 0)
/-- is a role right -/
def rok (v0 v1 v2 v3 : D) : Bool := nm v0 && (decide (fewC v2 < 0) && (decide (fewS v1 < 0) && decide (fewT v0 v1 v2 v3 < 0)))
theorem f15c (hn : len v2 < 1000) : f15_1 (.int 0) v0 v1 v2 v3 = cond (decide (fdG (badC v2) (len v2) 0 < 0)) (f15_1 (.int (len v2 : Nat)) v0 v1 v2 v3) (.row [.int 1, .int (fdG (badC v2) (len v2) 0).toNat, .int 291]) :=
  look (F := fun j => f15_1 (.int (j : Nat)) v0 v1 v2 v3) (n := len v2) (bad := badC v2) (B := fun j => .row [.int 1, .int (j : Nat), .int 291]) fun j hj => by
    show f15_1 (.int (j : Nat)) v0 v1 v2 v3 = cond _ _ (f15_1 (.int (j + 1 : Nat)) v0 v1 v2 v3)
    have a := fd_self hj
    rw [e15_1, ifT (by omega), ifF (by omega), wrapN (by omega)]
    simp only [f11_is, f12_is (v0 := v0) (v1 := v1) (v2 := v2) (v3 := v3) (by omega), sl_row0, sl_rowS, toInt_int, toBool_bool, decide_true, cond_true]
    unfold badC
    by_cases q : fd v2 (cl v2 j 0) < j
    · rw [ifF (by omega), decide_eq_true q]
      cases nm (cl v2 j 0) <;> rfl
    · rw [ifT (by omega), decide_eq_false q]
      cases nm (cl v2 j 0) <;> cases decide ((cl v2 j 1).toInt < 1) <;> cases decide (1000 < (cl v2 j 1).toInt) <;> rfl
theorem f15s (hn : len v1 < 1000) : f15_2 (.int 0) v0 v1 v2 v3 = cond (decide (fdG (badS v1) (len v1) 0 < 0)) (f15_2 (.int (len v1 : Nat)) v0 v1 v2 v3) (.row [.int 1, .int (fdG (badS v1) (len v1) 0).toNat, .int 292]) :=
  look (F := fun j => f15_2 (.int (j : Nat)) v0 v1 v2 v3) (n := len v1) (bad := badS v1) (B := fun j => .row [.int 1, .int (j : Nat), .int 292]) fun j hj => by
    show f15_2 (.int (j : Nat)) v0 v1 v2 v3 = cond _ _ (f15_2 (.int (j + 1 : Nat)) v0 v1 v2 v3)
    have a := fd_self hj
    rw [e15_2, ifT (by omega), ifF (by omega), wrapN (by omega)]
    simp only [f11_is, f13_is (v0 := v0) (v1 := v1) (v2 := v2) (v3 := v3) (by omega), sl_row0, sl_rowS, toInt_int, toBool_bool, decide_true, cond_true]
    unfold badS
    by_cases q : fd v1 (cl v1 j 0) < j
    · rw [ifF (by omega), decide_eq_true q]
      cases nm (cl v1 j 0) <;> rfl
    · rw [ifT (by omega), decide_eq_false q]
      cases nm (cl v1 j 0) <;> cases decide ((cl v1 j 2).toInt < 0) <;> cases decide (1048576 < (cl v1 j 2).toInt) <;> rfl
theorem f15t (hs : StepOk v3) (hn : len v3 < 1000) (hn1 : len v1 < 1000) (hn2 : len v2 < 1000) : f15_3 (.int 0) v0 v1 v2 v3 = cond (decide (fdG (badT v0 v1 v2 v3) (len v3) 0 < 0)) (f15_3 (.int (len v3 : Nat)) v0 v1 v2 v3) (.row [.int 1, .int (fdG (badT v0 v1 v2 v3) (len v3) 0).toNat, .int 293]) :=
  look (F := fun j => f15_3 (.int (j : Nat)) v0 v1 v2 v3) (n := len v3) (bad := badT v0 v1 v2 v3) (B := fun j => .row [.int 1, .int (j : Nat), .int 293]) fun j hj => by
    show f15_3 (.int (j : Nat)) v0 v1 v2 v3 = cond _ _ (f15_3 (.int (j + 1 : Nat)) v0 v1 v2 v3)
    rw [e15_3, ifT (by omega), wrapN (by omega)]
    simp only [f14_is hs hn hn1 hn2 hj, sl_row0, sl_rowS, toInt_int, toBool_bool, decide_true, cond_true]
    cases badT v0 v1 v2 v3 j <;> rfl
/-- the document's word on a role -/
theorem f15_is (hs : StepOk v3) (hn : len v3 < 1000) (hn1 : len v1 < 1000) (hn2 : len v2 < 1000) (v0 : D) : ∃ a e, f15_0 v0 v1 v2 v3 = .row [.int 1, .int a, .int e] ∧ decide (e = 0) = rok v0 v1 v2 v3 := by
  have E : ∀ a e : Int, e ≠ 0 → rok v0 v1 v2 v3 = false → ∃ a' e', D.row [.int 1, .int a, .int e] = .row [.int 1, .int a', .int e'] ∧ decide (e' = 0) = rok v0 v1 v2 v3 := fun a e h q => ⟨a, e, rfl, by rw [q]; exact decide_eq_false h⟩
  rw [e15_0]
  simp only [f11_is, sl_row0, sl_rowS, toInt_int, toBool_bool, decide_true, cond_true]
  cases c0 : nm v0
  · exact E _ _ (by omega) (by unfold rok; rw [c0]; rfl)
  by_cases c1 : 4 < (len v2 : Int)
  · rw [ifT c1]
    exact E _ _ (by omega) (by unfold rok fewC; rw [c0, ifT c1]; rfl)
  rw [ifF c1, f15c hn2]
  by_cases c2 : fdG (badC v2) (len v2) 0 < 0
  rotate_left
  · rw [ifF c2]
    exact E _ _ (by omega) (by unfold rok fewC; rw [c0, ifF c1, decide_eq_false c2]; rfl)
  rw [ifT c2, e15_1, ifF (by omega)]
  have k1 : decide (fewC v2 < 0) = true := by unfold fewC; rw [ifF c1]; exact decide_eq_true c2
  by_cases c3 : (len v1 : Int) = 0
  · rw [ifT c3]
    exact E _ _ (by omega) (by unfold rok; rw [c0, k1]; unfold fewS; rw [ifT (by omega)]; rfl)
  rw [ifF c3]
  by_cases c4 : 24 < (len v1 : Int)
  · rw [ifT c4]
    exact E _ _ (by omega) (by unfold rok; rw [c0, k1]; unfold fewS; rw [ifF (by omega), ifT c4]; rfl)
  rw [ifF c4, f15s hn1]
  by_cases c5 : fdG (badS v1) (len v1) 0 < 0
  rotate_left
  · rw [ifF c5]
    exact E _ _ (by omega) (by unfold rok; rw [c0, k1]; unfold fewS; rw [ifF (by omega), ifF c4, decide_eq_false c5]; rfl)
  rw [ifT c5, e15_2, ifF (by omega)]
  have k2 : decide (fewS v1 < 0) = true := by unfold fewS; rw [ifF (by omega), ifF c4]; exact decide_eq_true c5
  by_cases c6 : 80 < (len v3 : Int)
  · rw [ifT c6]
    exact E _ _ (by omega) (by unfold rok; rw [c0, k1, k2]; unfold fewT; rw [ifT c6]; rfl)
  rw [ifF c6, f15t hs hn hn1 hn2]
  by_cases c7 : fdG (badT v0 v1 v2 v3) (len v3) 0 < 0
  rotate_left
  · rw [ifF c7]
    exact E _ _ (by omega) (by unfold rok; rw [c0, k1, k2]; unfold fewT; rw [ifF c6, decide_eq_false c7]; rfl)
  rw [ifT c7, e15_3, ifF (by omega)]
  exact ⟨0, 0, rfl, by unfold rok; rw [c0, k1, k2]; unfold fewT; rw [ifF c6, decide_eq_true c7]; rfl⟩
end
end Cv
namespace Cv
open Go Go.AE
/-! CONVERTCHECKS: which converters are right -/
/-- is a name among the first ones -/
def twice (l : D) (i : Nat) : Bool := !decide (fdG (fun j => D.strEq (cl l j 0) (cl l i 0)) i 0 < 0)
/-- what is wrong with a pair of states -/
def badP (v1 v5 v8 : D) (i : Nat) : Bool := decide (fd v1 (cl v8 i 0) < 0) || (decide (fd v5 (cl v8 i 1) < 0) || twice v8 i)
/-- what is wrong with a pair of counters -/
def badQ (v2 v6 v9 : D) (i : Nat) : Bool := decide (fd v6 (cl v9 i 0) < 0) || ((!eqC (cl v9 i 1) 0 0 && decide (fd v2 (cl v9 i 1) < 0)) || (twice v9 i || (decide (1000 < (cl v9 i 2).toInt) || decide ((cl v9 i 2).toInt < (-1000)))))
section
variable [While]
variable {v0 v1 v2 v3 v4 v5 v6 v7 v8 v9 : D}
/-- what Check answers -/
def chk (v0 v1 v2 v3 v4 v5 v6 v7 v8 v9 : D) : D := cond (rok v0 v1 v2 v3) (cond (rok v4 v5 v6 v7) (cond (decide (24 < (len v8 : Int))) (.row [.int 1, .int 24, .int 490])
  (cond (decide (fdG (badP v1 v5 v8) (len v8) 0 < 0)) (cond (decide (4 < (len v9 : Int))) (.row [.int 1, .int 4, .int 491])
    (cond (decide (fdG (badQ v2 v6 v9) (len v9) 0 < 0)) (.row [.int 1, .int 0, .int 0]) (.row [.int 1, .int (fdG (badQ v2 v6 v9) (len v9) 0).toNat, .int 491])))
    (.row [.int 1, .int (fdG (badP v1 v5 v8) (len v8) 0).toNat, .int 490]))) (.row [.int 1, .int 0, .int 2])) (.row [.int 1, .int 0, .int 2])
theorem f10p (hn1 : len v1 < 1000) (hn5 : len v5 < 1000) (hn : len v8 < 1000) {b : Bool} : f10_1 v0 v1 v2 v3 v4 v5 v6 v7 v8 v9 (.bool b) (.int 0) emptyD = cond (decide (fdG (badP v1 v5 v8) (len v8) 0 < 0)) (f10_1 v0 v1 v2 v3 v4 v5 v6 v7 v8 v9 (.bool b) (.int (len v8 : Nat)) (seenM (fun j => cl v8 j 0) (len v8))) (.row [.int 1, .int (fdG (badP v1 v5 v8) (len v8) 0).toNat, .int 490]) :=
  look (F := fun j => f10_1 v0 v1 v2 v3 v4 v5 v6 v7 v8 v9 (.bool b) (.int (j : Nat)) (seenM (fun j => cl v8 j 0) j)) (n := len v8) (bad := badP v1 v5 v8) (B := fun j => .row [.int 1, .int (j : Nat), .int 490]) fun i hi => by
    show f10_1 v0 v1 v2 v3 v4 v5 v6 v7 v8 v9 (.bool b) (.int (i : Nat)) (seenM (fun j => cl v8 j 0) i) = cond _ _ (f10_1 v0 v1 v2 v3 v4 v5 v6 v7 v8 v9 (.bool b) (.int (i + 1 : Nat)) (seenM (fun j => cl v8 j 0) (i + 1)))
    rw [e10_1, ifT (by omega), ifF (by omega), wrapN (by omega)]
    simp only [f8_is (v0 := v1) (by omega), f8_is (v0 := v5) (by omega), sl_row0, sl_rowS, toInt_int, toBool_bool, decide_true, cond_true, seenM_ix]
    unfold badP twice
    cases decide (fd v1 (cl v8 i 0) < 0) <;> cases decide (fd v5 (cl v8 i 1) < 0) <;> simp only [cond_true, cond_false, Bool.true_or, Bool.false_or]
    by_cases q : fdG (fun j => D.strEq (cl v8 j 0) (cl v8 i 0)) i 0 < 0
    · rw [ifT q, decide_eq_true q]
      show f10_1 v0 v1 v2 v3 v4 v5 v6 v7 v8 v9 (.bool b) (.int (i + 1 : Nat)) (ad (seenM (fun j => cl v8 j 0) i) (.row [(fun j : Nat => cl v8 j 0) i, .bool true])) = f10_1 v0 v1 v2 v3 v4 v5 v6 v7 v8 v9 (.bool b) (.int (i + 1 : Nat)) (seenM (fun j => cl v8 j 0) (i + 1))
      rw [seenM_succ]
    · have a := fdG_lt (p := fun j => D.strEq (cl v8 j 0) (cl v8 i 0)) (k := i) (i := 0)
      rw [ifF q, decide_eq_false q, seenM_cell (by omega) (by omega)]
      rfl
theorem base_is {n : Int} {α : Type} {x y z : α} (hz : z = cond (decide (1000 < n) || decide (n < (-1000))) x y) : cond (decide (n < IntKind.wrap .i64 (0 - n))) (cond (decide (1000 < IntKind.wrap .i64 (0 - n))) x (cond (decide (n < (-1000))) x y)) (cond (decide (1000 < n)) x (cond (decide (n < (-1000))) x y)) = z := by
  subst hz
  by_cases c : 1000 < n
  · rw [decide_eq_true c, Bool.true_or, cond_true]
    by_cases q : n < IntKind.wrap .i64 (0 - n)
    · rw [ifT q, ifT (by omega)]; rfl
    · rw [ifF q]; rfl
  rw [decide_eq_false c, Bool.false_or, cond_false]
  by_cases d : n < -1000
  · rw [ifT d, Bool.cond_self, Bool.cond_self]
  · rw [ifF d, wrap_i64 (by omega) (by omega), ifF (p := 1000 < 0 - n) (by omega), Bool.cond_self]
theorem f10q (hn2 : len v2 < 1000) (hn6 : len v6 < 1000) (hn : len v9 < 1000) {b c d : Bool} {m : Int} : f10_2 v0 v1 v2 v3 v4 v5 v6 v7 v8 v9 (.bool b) (.int m) (.bool c) (.bool d) (.int 0) emptyD = cond (decide (fdG (badQ v2 v6 v9) (len v9) 0 < 0)) (f10_2 v0 v1 v2 v3 v4 v5 v6 v7 v8 v9 (.bool b) (.int m) (.bool c) (.bool d) (.int (len v9 : Nat)) (seenM (fun j => cl v9 j 0) (len v9))) (.row [.int 1, .int (fdG (badQ v2 v6 v9) (len v9) 0).toNat, .int 491]) :=
  look (F := fun j => f10_2 v0 v1 v2 v3 v4 v5 v6 v7 v8 v9 (.bool b) (.int m) (.bool c) (.bool d) (.int (j : Nat)) (seenM (fun j => cl v9 j 0) j)) (n := len v9) (bad := badQ v2 v6 v9) (B := fun j => .row [.int 1, .int (j : Nat), .int 491]) fun i hi => by
    show f10_2 v0 v1 v2 v3 v4 v5 v6 v7 v8 v9 (.bool b) (.int m) (.bool c) (.bool d) (.int (i : Nat)) (seenM (fun j => cl v9 j 0) i) = cond _ _ (f10_2 v0 v1 v2 v3 v4 v5 v6 v7 v8 v9 (.bool b) (.int m) (.bool c) (.bool d) (.int (i + 1 : Nat)) (seenM (fun j => cl v9 j 0) (i + 1)))
    have hs : ad (seenM (fun j => cl v9 j 0) i) (.row [cl v9 i 0, .bool true]) = seenM (fun j => cl v9 j 0) (i + 1) := seenM_succ (f := fun j => cl v9 j 0)
    rw [e10_2, ifT (by omega), ifF (by omega), wrapN (by omega)]
    simp only [f9_is (v0 := v2) (by omega), f9_is (v0 := v6) (by omega), sl_row0, sl_rowS, toInt_int, toBool_bool, decide_true, cond_true, seenM_ix, hs]
    unfold badQ twice
    by_cases q : fdG (fun j => D.strEq (cl v9 j 0) (cl v9 i 0)) i 0 < 0
    · simp only [ifT q, decide_eq_true q]
      cases decide (fd v6 (cl v9 i 0) < 0) <;> cases eqC (cl v9 i 1) 0 0 <;> cases decide (fd v2 (cl v9 i 1) < 0) <;> first | rfl | (simp only [cond_true, cond_false, Bool.true_or, Bool.false_or, Bool.not_true, Bool.not_false, Bool.true_and, Bool.false_and]; exact base_is rfl)
    · have a := fdG_lt (p := fun j => D.strEq (cl v9 j 0) (cl v9 i 0)) (k := i) (i := 0)
      simp only [ifF q, decide_eq_false q, seenM_cell (f := fun j : Nat => cl v9 j 0) (i := i) (j := fdG (fun j => D.strEq (cl v9 j 0) (cl v9 i 0)) i 0) (by omega) (by omega)]
      cases decide (fd v6 (cl v9 i 0) < 0) <;> cases eqC (cl v9 i 1) 0 0 <;> cases decide (fd v2 (cl v9 i 1) < 0) <;> rfl
theorem f10_is (hs : StepOk v3) (hs7 : StepOk v7) (hn1 : len v1 < 1000) (hn2 : len v2 < 1000) (hn3 : len v3 < 1000) (hn5 : len v5 < 1000) (hn6 : len v6 < 1000) (hn7 : len v7 < 1000) (hn8 : len v8 < 1000) (hn9 : len v9 < 1000) : f10_0 v0 v1 v2 v3 v4 v5 v6 v7 v8 v9 = chk v0 v1 v2 v3 v4 v5 v6 v7 v8 v9 := by
  rw [e10_0]
  simp only [f1_is, f3_is (v2 := v2) hn2, f3_is (v2 := v6) hn6, f5_is (v1 := v1) hn1, f5_is (v1 := v5) hn5, f7_is hs hn3 hn1 hn2, f7_is hs7 hn7 hn5 hn6, sl_row0, sl_rowS, toInt_int, toBool_bool, decide_true, cond_true, f10p hn1 hn5 hn8]
  unfold chk rok fewC fewS fewT
  cases nm v0 <;> simp only [cond_true, cond_false, Bool.true_and, Bool.false_and]
  cases decide ((cond (decide (4 < (len v2 : Int))) 4 (fdG (badC v2) (len v2) 0)) < 0) <;> simp only [cond_true, cond_false, Bool.true_and, Bool.false_and]
  cases decide ((cond (decide ((len v1 : Int) < 1)) 0 (cond (decide (24 < (len v1 : Int))) 24 (fdG (badS v1) (len v1) 0))) < 0) <;> simp only [cond_true, cond_false, Bool.true_and, Bool.false_and]
  cases decide ((cond (decide (80 < (len v3 : Int))) 80 (fdG (badT v0 v1 v2 v3) (len v3) 0)) < 0) <;> simp only [cond_true, cond_false, Bool.true_and, Bool.false_and]
  cases nm v4 <;> simp only [cond_true, cond_false, Bool.true_and, Bool.false_and]
  cases decide ((cond (decide (4 < (len v6 : Int))) 4 (fdG (badC v6) (len v6) 0)) < 0) <;> simp only [cond_true, cond_false, Bool.true_and, Bool.false_and]
  cases decide ((cond (decide ((len v5 : Int) < 1)) 0 (cond (decide (24 < (len v5 : Int))) 24 (fdG (badS v5) (len v5) 0))) < 0) <;> simp only [cond_true, cond_false, Bool.true_and, Bool.false_and]
  cases decide ((cond (decide (80 < (len v7 : Int))) 80 (fdG (badT v4 v5 v6 v7) (len v7) 0)) < 0) <;> simp only [cond_true, cond_false, Bool.true_and, Bool.false_and]
  congr 2
  rw [e10_1, ifF (by omega), f10q hn2 hn6 hn9]
  congr 2
  rw [e10_2, ifF (by omega)]
/-- the document's loops -/
theorem f18a {v0 v1 v2 v3 v4 v5 v6 v7 v8 v9 : D} (hn : len v8 < 1000) {i : Nat} (hi : i < len v8) {b : Bool} : f18_2 (.int (i : Nat)) (.bool b) (.int 0) v0 v1 v2 v3 v4 v5 v6 v7 v8 v9 = cond (b || twice v8 i) (.row [.int 1, .int (i : Nat), .int 490]) (f18_1 (.int (i + 1 : Nat)) v0 v1 v2 v3 v4 v5 v6 v7 v8 v9) := by
  have A := accum (G := fun b j => f18_2 (.int (i : Nat)) (.bool b) (.int (j : Nat)) v0 v1 v2 v3 v4 v5 v6 v7 v8 v9) (b := b) (n := i) (p := fun j => D.strEq (cl v8 j 0) (cl v8 i 0)) (fun b j hj => by
    show f18_2 (.int (i : Nat)) (.bool b) (.int (j : Nat)) v0 v1 v2 v3 v4 v5 v6 v7 v8 v9 = cond b (f18_2 (.int (i : Nat)) (.bool true) (.int (j + 1 : Nat)) v0 v1 v2 v3 v4 v5 v6 v7 v8 v9) (f18_2 (.int (i : Nat)) (.bool (D.strEq (cl v8 j 0) (cl v8 i 0))) (.int (j + 1 : Nat)) v0 v1 v2 v3 v4 v5 v6 v7 v8 v9)
    rw [e18_2, ifT (by omega), wrapN (by omega), ifF (by omega), ifT (by omega), ifF (by omega), ifT (by omega)])
  refine A.trans ?_
  show f18_2 (.int (i : Nat)) (.bool (b || twice v8 i)) (.int (i : Nat)) v0 v1 v2 v3 v4 v5 v6 v7 v8 v9 = _
  rw [e18_2, ifF (by omega), wrapN (by omega)]
theorem f18p {v0 v1 v2 v3 v4 v5 v6 v7 v8 v9 : D} (hn1 : len v1 < 1000) (hn5 : len v5 < 1000) (hn : len v8 < 1000) : f18_1 (.int 0) v0 v1 v2 v3 v4 v5 v6 v7 v8 v9 = cond (decide (fdG (badP v1 v5 v8) (len v8) 0 < 0)) (f18_1 (.int (len v8 : Nat)) v0 v1 v2 v3 v4 v5 v6 v7 v8 v9) (.row [.int 1, .int (fdG (badP v1 v5 v8) (len v8) 0).toNat, .int 490]) :=
  look (F := fun j => f18_1 (.int (j : Nat)) v0 v1 v2 v3 v4 v5 v6 v7 v8 v9) (n := len v8) (bad := badP v1 v5 v8) (B := fun j => .row [.int 1, .int (j : Nat), .int 490]) fun i hi => by
    show f18_1 (.int (i : Nat)) v0 v1 v2 v3 v4 v5 v6 v7 v8 v9 = cond _ _ (f18_1 (.int (i + 1 : Nat)) v0 v1 v2 v3 v4 v5 v6 v7 v8 v9)
    rw [e18_1, ifT (by omega), ifF (by omega)]
    simp only [f16_is (v0 := v0) (v1 := v1) (v2 := v2) (v3 := v3) (by omega), f16_is (v0 := v4) (v1 := v5) (v2 := v6) (v3 := v7) (by omega), sl_row0, sl_rowS, toInt_int, toBool_bool, decide_true, cond_true, f18a hn hi]
    unfold badP
    cases decide (fd v1 (cl v8 i 0) < 0) <;> cases decide (fd v5 (cl v8 i 1) < 0) <;> rfl
theorem f18b {v0 v1 v2 v3 v4 v5 v6 v7 v8 v9 x : D} {n : Int} (hn : len v9 < 1000) {i : Nat} (hi : i < len v9) {b : Bool} : f18_4 (.int (i : Nat)) (.bool b) (.int 0) v0 v1 v2 v3 v4 v5 v6 v7 v8 v9 (cl v9 i 0) x (.int n) = cond (b || twice v9 i) (.row [.int 1, .int (i : Nat), .int 491]) (f18_3 (.int (i + 1 : Nat)) v0 v1 v2 v3 v4 v5 v6 v7 v8 v9) := by
  have A := accum (G := fun b j => f18_4 (.int (i : Nat)) (.bool b) (.int (j : Nat)) v0 v1 v2 v3 v4 v5 v6 v7 v8 v9 (cl v9 i 0) x (.int n)) (b := b) (n := i) (p := fun j => D.strEq (cl v9 j 0) (cl v9 i 0)) (fun b j hj => by
    show f18_4 (.int (i : Nat)) (.bool b) (.int (j : Nat)) v0 v1 v2 v3 v4 v5 v6 v7 v8 v9 (cl v9 i 0) x (.int n) = cond b (f18_4 (.int (i : Nat)) (.bool true) (.int (j + 1 : Nat)) v0 v1 v2 v3 v4 v5 v6 v7 v8 v9 (cl v9 i 0) x (.int n)) (f18_4 (.int (i : Nat)) (.bool (D.strEq (cl v9 j 0) (cl v9 i 0))) (.int (j + 1 : Nat)) v0 v1 v2 v3 v4 v5 v6 v7 v8 v9 (cl v9 i 0) x (.int n))
    rw [e18_4, ifT (by omega), wrapN (by omega), ifF (by omega), ifT (by omega)])
  refine A.trans ?_
  show f18_4 (.int (i : Nat)) (.bool (b || twice v9 i)) (.int (i : Nat)) v0 v1 v2 v3 v4 v5 v6 v7 v8 v9 (cl v9 i 0) x (.int n) = _
  rw [e18_4, ifF (by omega), wrapN (by omega)]
/-- the pairs of counters have numbers where numbers stand -/
def PairOk (v9 : D) : Prop := ∀ i : Nat, i < len v9 → ∃ n, cl v9 i 2 = .int n
theorem f18b' {v0 v1 v2 v3 v4 v5 v6 v7 v8 v9 x : D} (hp : PairOk v9) (hn : len v9 < 1000) {i : Nat} (hi : i < len v9) {b : Bool} : f18_4 (.int (i : Nat)) (.bool b) (.int 0) v0 v1 v2 v3 v4 v5 v6 v7 v8 v9 (cl v9 i 0) x (cl v9 i 2) = cond (b || twice v9 i) (.row [.int 1, .int (i : Nat), .int 491]) (f18_3 (.int (i + 1 : Nat)) v0 v1 v2 v3 v4 v5 v6 v7 v8 v9) := by
  obtain ⟨n, h2⟩ := hp i hi
  rw [h2]
  exact f18b hn hi
theorem f18q {v0 v1 v2 v3 v4 v5 v6 v7 v8 v9 : D} (hp : PairOk v9) (hn2 : len v2 < 1000) (hn6 : len v6 < 1000) (hn : len v9 < 1000) : f18_3 (.int 0) v0 v1 v2 v3 v4 v5 v6 v7 v8 v9 = cond (decide (fdG (badQ v2 v6 v9) (len v9) 0 < 0)) (f18_3 (.int (len v9 : Nat)) v0 v1 v2 v3 v4 v5 v6 v7 v8 v9) (.row [.int 1, .int (fdG (badQ v2 v6 v9) (len v9) 0).toNat, .int 491]) :=
  look (F := fun j => f18_3 (.int (j : Nat)) v0 v1 v2 v3 v4 v5 v6 v7 v8 v9) (n := len v9) (bad := badQ v2 v6 v9) (B := fun j => .row [.int 1, .int (j : Nat), .int 491]) fun i hi => by
    show f18_3 (.int (i : Nat)) v0 v1 v2 v3 v4 v5 v6 v7 v8 v9 = cond _ _ (f18_3 (.int (i + 1 : Nat)) v0 v1 v2 v3 v4 v5 v6 v7 v8 v9)
    rw [e18_3, ifT (by omega), ifF (by omega)]
    unfold badQ
    simp only [f17_is (v0 := v0) (v1 := v1) (v2 := v2) (v3 := v3) (by omega), f17_is (v0 := v4) (v1 := v5) (v2 := v6) (v3 := v7) (by omega), sl_row0, sl_rowS, toInt_int, toBool_bool, decide_true, cond_true, f18b' hp hn hi]
    cases decide (fd v6 (cl v9 i 0) < 0) <;> cases eqC (cl v9 i 1) 0 0 <;> cases decide (fd v2 (cl v9 i 1) < 0) <;> cases twice v9 i <;> cases decide (1000 < (cl v9 i 2).toInt) <;> simp only [cond_true, cond_false, Bool.true_or, Bool.false_or, Bool.or_true, Bool.or_false, Bool.not_true, Bool.not_false, Bool.true_and, Bool.false_and]
theorem f18_is (hs : StepOk v3) (hs7 : StepOk v7) (hp : PairOk v9) (hn1 : len v1 < 1000) (hn2 : len v2 < 1000) (hn3 : len v3 < 1000) (hn5 : len v5 < 1000) (hn6 : len v6 < 1000) (hn7 : len v7 < 1000) (hn8 : len v8 < 1000) (hn9 : len v9 < 1000) : f18_0 v0 v1 v2 v3 v4 v5 v6 v7 v8 v9 = chk v0 v1 v2 v3 v4 v5 v6 v7 v8 v9 := by
  obtain ⟨a, e, h1, h2⟩ := f15_is hs hn3 hn1 hn2 v0
  obtain ⟨a', e', h1', h2'⟩ := f15_is hs7 hn7 hn5 hn6 v4
  rw [e18_0]
  simp only [h1, h1', sl_row0, sl_rowS, toInt_int, toBool_bool, decide_true, cond_true, f18p hn1 hn5 hn8]
  unfold chk
  by_cases c : e = 0
  rotate_left
  · rw [ifF c, ← h2, ifF c]
  rw [ifT c, ← h2, ifT c]
  by_cases c' : e' = 0
  rotate_left
  · rw [ifF c', ← h2', ifF c']
  rw [ifT c', ← h2', ifT c']
  congr 2
  rw [e18_1, ifF (by omega), f18q hp hn2 hn6 hn9]
  congr 2
  rw [e18_3, ifF (by omega)]
end
end Cv
namespace Cv
open Go Go.AE
/-! CONVERTCHECKS: configurations of a role -/
section
variable [While]
variable {v0 v1 v2 v3 v4 v5 v10 v11 : D}
/-- what is wrong with a value -/
def badX (v2 v11 : D) (i : Nat) : Bool := decide ((cl v11 i 0).toInt < 0) || decide ((cl v2 i 1).toInt < (cl v11 i 0).toInt)
/-- is a configuration one of a role -/
def isC (v1 v2 v10 v11 : D) : Bool := !decide (fd v1 v10 < 0) && (decide ((len v11 : Int) = (len v2 : Int)) && decide (fdG (badX v2 v11) (len v11) 0 < 0))
/-- a list of numbers -/
def NumOk (v11 : D) : Prop := ∀ i : Nat, i < len v11 → ∃ n, cl v11 i 0 = .int n
/-- the value at a place, or 0 -/
def kv (v11 : D) (j : Nat) : Int := if j < len v11 then (cl v11 j 0).toInt else 0
theorem NumOk.at {v11 : D} (h : NumOk v11) {j : Nat} (hj : j < len v11) : cl v11 j 0 = .int (kv v11 j) := by
  obtain ⟨n, e⟩ := h j hj
  unfold kv
  rw [if_pos hj, e]
  rfl
theorem kv_no {v11 : D} {j : Nat} (hj : len v11 ≤ j) : kv v11 j = 0 := if_neg (by omega)
theorem f19_is (hx : NumOk v11) (hn1 : len v1 < 1000) (hn2 : len v2 < 1000) : f19_0 v0 v1 v2 v3 v10 v11 = cond (isC v1 v2 v10 v11) (.row [.int 1, .int (fd v1 v10), .int (kv v11 0), .int (kv v11 1), .int (kv v11 2), .int (kv v11 3), .bool true]) (.row [.int 1, .int (fd v1 v10), .int 0, .int 0, .int 0, .int 0, .bool false]) := by
  rw [e19_0]
  simp only [f8_is (v0 := v1) (by omega), sl_row0, sl_rowS, toInt_int, toBool_bool, decide_true, cond_true]
  unfold isC
  by_cases c1 : fd v1 v10 < 0
  · rw [ifT c1, decide_eq_true c1]
    rfl
  rw [ifF c1, decide_eq_false c1]
  by_cases c2 : (len v11 : Int) = (len v2 : Int)
  rotate_left
  · rw [ifF c2, decide_eq_false c2]
    rfl
  rw [ifT c2, decide_eq_true c2]
  have L := look (F := fun j => f19_1 v11 (.int (j : Nat)) v0 v1 v2 v3 v10 (.int (fd v1 v10))) (n := len v11) (bad := badX v2 v11) (B := fun _ => .row [.int 1, .int (fd v1 v10), .int 0, .int 0, .int 0, .int 0, .bool false]) (fun j hj => by
    show f19_1 v11 (.int (j : Nat)) v0 v1 v2 v3 v10 (.int (fd v1 v10)) = cond _ _ (f19_1 v11 (.int (j + 1 : Nat)) v0 v1 v2 v3 v10 (.int (fd v1 v10)))
    rw [e19_1, ifT (by omega), ifF (by omega), wrapN (by omega), ifT (p := (j : Int) < (len v2 : Int)) (by omega)]
    unfold badX
    cases decide ((cl v11 j 0).toInt < 0) <;> cases decide ((cl v2 j 1).toInt < (cl v11 j 0).toInt) <;> rfl)
  refine (show f19_1 v11 (.int 0) v0 v1 v2 v3 v10 (.int (fd v1 v10)) = _ from L).trans ?_
  show cond (decide (fdG (badX v2 v11) (len v11) 0 < 0)) (f19_1 v11 (.int (len v11 : Nat)) v0 v1 v2 v3 v10 (.int (fd v1 v10))) _ = cond (decide (fdG (badX v2 v11) (len v11) 0 < 0)) _ _
  congr 1
  rw [e19_1, ifF (by omega)]
  have h0 := hx.at (j := 0)
  have h1 := hx.at (j := 1)
  have h2 := hx.at (j := 2)
  have h3 := hx.at (j := 3)
  by_cases k : (len v11 : Int) < 4
  rotate_left
  · rw [ifF k, show cl v11 0 0 = .int (kv v11 0) from h0 (by omega), show cl v11 1 0 = .int (kv v11 1) from h1 (by omega), show cl v11 2 0 = .int (kv v11 2) from h2 (by omega), show cl v11 3 0 = .int (kv v11 3) from h3 (by omega)]
  rw [ifT k]
  by_cases k0 : (len v11 : Int) = 0
  · rw [ifT k0, kv_no (j := 0) (by omega), kv_no (j := 1) (by omega), kv_no (j := 2) (by omega), kv_no (j := 3) (by omega)]
  rw [ifF k0]
  by_cases k1 : (len v11 : Int) = 1
  · rw [ifT k1, show cl v11 0 0 = .int (kv v11 0) from h0 (by omega), kv_no (j := 1) (by omega), kv_no (j := 2) (by omega), kv_no (j := 3) (by omega)]
  rw [ifF k1]
  by_cases k2 : (len v11 : Int) = 2
  · rw [ifT k2, show cl v11 0 0 = .int (kv v11 0) from h0 (by omega), show cl v11 1 0 = .int (kv v11 1) from h1 (by omega), kv_no (j := 2) (by omega), kv_no (j := 3) (by omega)]
  rw [ifF k2]
  have k3 : (len v11 : Int) = 3 := by omega
  rw [ifT k3, show cl v11 0 0 = .int (kv v11 0) from h0 (by omega), show cl v11 1 0 = .int (kv v11 1) from h1 (by omega), show cl v11 2 0 = .int (kv v11 2) from h2 (by omega), kv_no (j := 3) (by omega)]
theorem f22_is (hn1 : len v1 < 1000) (hn2 : len v2 < 1000) : f22_0 v0 v1 v2 v3 v10 v11 = .row [.int 1, .bool (isC v1 v2 v10 v11)] := by
  rw [e22_0]
  simp only [f16_is (v0 := v0) (v1 := v1) (v2 := v2) (v3 := v3) (by omega), sl_row0, sl_rowS, toInt_int, toBool_bool, decide_true, cond_true]
  unfold isC
  by_cases c1 : fd v1 v10 < 0
  · rw [ifT c1, decide_eq_true c1]
    rfl
  rw [ifF c1, decide_eq_false c1]
  by_cases c2 : (len v11 : Int) = (len v2 : Int)
  rotate_left
  · rw [ifF c2, decide_eq_false c2]
    rfl
  rw [ifT c2, decide_eq_true c2]
  have L := look (F := fun j => f22_1 (.int (j : Nat)) v0 v1 v2 v3 v10 v11) (n := len v11) (bad := badX v2 v11) (B := fun _ => .row [.int 1, .bool false]) (fun j hj => by
    show f22_1 (.int (j : Nat)) v0 v1 v2 v3 v10 v11 = cond _ _ (f22_1 (.int (j + 1 : Nat)) v0 v1 v2 v3 v10 v11)
    rw [e22_1, ifT (by omega), ifF (by omega), wrapN (by omega), ifT (p := (j : Int) < (len v2 : Int)) (by omega)]
    unfold badX
    cases decide ((cl v11 j 0).toInt < 0) <;> cases decide ((cl v2 j 1).toInt < (cl v11 j 0).toInt) <;> rfl)
  refine (show f22_1 (.int 0) v0 v1 v2 v3 v10 v11 = _ from L).trans ?_
  show cond (decide (fdG (badX v2 v11) (len v11) 0 < 0)) (f22_1 (.int (len v11 : Nat)) v0 v1 v2 v3 v10 v11) (.row [.int 1, .bool false]) = _
  rw [show f22_1 (.int (len v11 : Nat)) v0 v1 v2 v3 v10 v11 = .row [.int 1, .bool true] from by rw [e22_1, ifF (by omega)]]
  cases decide (fdG (badX v2 v11) (len v11) 0 < 0) <;> rfl
theorem f23_is {b : Bool} (hn1 : len v1 < 1000) (hn2 : len v2 < 1000) : f23_0 v0 v1 v2 v3 v10 v11 (.bool b) = .row [.int 1, .bool (isC v1 v2 v10 v11)] := by
  rw [e23_0]
  simp only [f16_is (v0 := v0) (v1 := v1) (v2 := v2) (v3 := v3) (by omega), sl_row0, sl_rowS, toInt_int, toBool_bool, decide_true, cond_true]
  unfold isC
  by_cases c1 : fd v1 v10 < 0
  · rw [ifT c1, decide_eq_true c1]
    rfl
  rw [ifF c1, decide_eq_false c1]
  by_cases c2 : (len v11 : Int) = (len v2 : Int)
  rotate_left
  · rw [ifF c2, decide_eq_false c2]
    rfl
  rw [ifT c2, decide_eq_true c2]
  have L := look (F := fun j => f23_1 (.int (j : Nat)) v11 v0 v1 v2 v3 v10 (.bool b)) (n := len v11) (bad := badX v2 v11) (B := fun _ => .row [.int 1, .bool false]) (fun j hj => by
    show f23_1 (.int (j : Nat)) v11 v0 v1 v2 v3 v10 (.bool b) = cond _ _ (f23_1 (.int (j + 1 : Nat)) v11 v0 v1 v2 v3 v10 (.bool b))
    rw [e23_1, ifT (by omega), ifF (by omega), wrapN (by omega), ifT (p := (j : Int) < (len v2 : Int)) (by omega)]
    unfold badX
    cases decide ((cl v11 j 0).toInt < 0) <;> cases decide ((cl v2 j 1).toInt < (cl v11 j 0).toInt) <;> rfl)
  refine (show f23_1 (.int 0) v11 v0 v1 v2 v3 v10 (.bool b) = _ from L).trans ?_
  show cond (decide (fdG (badX v2 v11) (len v11) 0 < 0)) (f23_1 (.int (len v11 : Nat)) v11 v0 v1 v2 v3 v10 (.bool b)) (.row [.int 1, .bool false]) = _
  rw [show f23_1 (.int (len v11 : Nat)) v11 v0 v1 v2 v3 v10 (.bool b) = .row [.int 1, .bool true] from by rw [e23_1, ifF (by omega)]]
  cases decide (fdG (badX v2 v11) (len v11) 0 < 0) <;> rfl
/-- two configurations that are the same -/
theorem f25_is {a l a' l' : D} {b b' : Bool} (hs : D.strEq a a' = true) (hl : len l = len l') (hn : len l < 1000) (he : ∀ j : Nat, j < len l → (cl l j 0).toInt = (cl l' j 0).toInt) : f25_0 a l (.bool b) a' l' (.bool b') = .row [.int 1, .bool true] := by
  rw [e25_0, cT hs, ifT (by omega)]
  have L := look (F := fun j => f25_1 (.int (j : Nat)) l l' a (.bool b) a' (.bool b')) (n := len l) (bad := fun _ => false) (B := fun _ => .row [.int 1, .bool false]) (fun j hj => by
    show f25_1 (.int (j : Nat)) l l' a (.bool b) a' (.bool b') = cond _ _ (f25_1 (.int (j + 1 : Nat)) l l' a (.bool b) a' (.bool b'))
    rw [e25_1, ifT (by omega), ifF (by omega), wrapN (by omega), ifT (by omega), ifT (he j hj)]
    rfl)
  refine (show f25_1 (.int 0) l l' a (.bool b) a' (.bool b') = _ from L).trans ?_
  show cond _ (f25_1 (.int (len l : Nat)) l l' a (.bool b) a' (.bool b')) _ = _
  rw [fdG_all (fun _ _ _ => rfl), ifT (by omega), e25_1, ifF (by omega)]
end
end Cv
namespace Cv
open Go Go.AE
/-! CONVERTCHECKS: what a configuration becomes -/
/-- the place of a pair of counters -/
def pl (v6 v9 : D) (i : Nat) : Int := fd v6 (cl v9 i 0)
/-- the value of a pair of counters -/
def pv (v2 v9 v11 : D) (i : Nat) : Int := cond (decide (fd v2 (cl v9 i 1) < 0)) (cl v9 i 2).toInt (IntKind.wrap .i64 ((cl v9 i 2).toInt + kv v11 (fd v2 (cl v9 i 1)).toNat))
/-- the values after i pairs -/
def vs (v2 v6 v9 v11 : D) (j : Nat) : Nat → Int
  | 0 => 0
  | i + 1 => if pl v6 v9 i = j then pv v2 v9 v11 i else vs v2 v6 v9 v11 j i
theorem vs_succ {v2 v6 v9 v11 : D} {j i : Nat} : vs v2 v6 v9 v11 j (i + 1) = if pl v6 v9 i = j then pv v2 v9 v11 i else vs v2 v6 v9 v11 j i := rfl
def badV (v2 v6 v9 v11 : D) (i : Nat) : Bool := decide (pv v2 v9 v11 i < 0) || decide ((cl v6 (pl v6 v9 i) 1).toInt < pv v2 v9 v11 i)
section
variable [While]
variable {v0 v1 v2 v3 v4 v5 v6 v7 v8 v9 v10 v11 : D}
theorem f20_is {a b c d : Int} {st : Nat} (hn : len v8 < 1000) (h : st < len v1) : f20_0 v8 v0 v1 v2 v3 (.int (st : Nat)) (.int a) (.int b) (.int c) (.int d) = .row [.int 1, .int (fd v8 (cl v1 st 0))] := by
  rw [e20_0]
  refine find (F := fun j => f20_1 v8 (.int (j : Nat)) v0 v1 v2 v3 (.int (st : Nat)) (.int a) (.int b) (.int c) (.int d)) (n := len v8) (bad := fun j => D.strEq (cl v8 j 0) (cl v1 st 0)) (fun j hj => ?_) ?_
  · show f20_1 v8 (.int (j : Nat)) v0 v1 v2 v3 (.int (st : Nat)) (.int a) (.int b) (.int c) (.int d) = _
    rw [e20_1, ifT (by omega), ifF (by omega), wrapN (by omega), ifF (by omega), ifT (by omega)]
  · show f20_1 v8 (.int (len v8 : Nat)) v0 v1 v2 v3 (.int (st : Nat)) (.int a) (.int b) (.int c) (.int d) = _
    rw [e20_1, ifF (by omega)]
theorem f21_step {st st' : Int} (hp : PairOk v9) (hn : len v9 < 1000) (h2 : len v2 ≤ 4) (h6 : len v6 ≤ 4) {i : Nat} (hi : i < len v9) (h0 : 0 ≤ pl v6 v9 i) :
    f21_1 v9 (.int (i : Nat)) v0 v1 v2 v3 v4 v5 v6 v7 (.int st) (.int (kv v11 0)) (.int (kv v11 1)) (.int (kv v11 2)) (.int (kv v11 3)) (.int st') (.int (vs v2 v6 v9 v11 0 i)) (.int (vs v2 v6 v9 v11 1 i)) (.int (vs v2 v6 v9 v11 2 i)) (.int (vs v2 v6 v9 v11 3 i)) =
      cond (badV v2 v6 v9 v11 i) (.row [.int 1, .int 0, .int 0, .int 0, .int 0, .int 0, .int 3]) (f21_1 v9 (.int (i + 1 : Nat)) v0 v1 v2 v3 v4 v5 v6 v7 (.int st) (.int (kv v11 0)) (.int (kv v11 1)) (.int (kv v11 2)) (.int (kv v11 3)) (.int st') (.int (vs v2 v6 v9 v11 0 (i + 1))) (.int (vs v2 v6 v9 v11 1 (i + 1))) (.int (vs v2 v6 v9 v11 2 (i + 1))) (.int (vs v2 v6 v9 v11 3 (i + 1)))) := by
  obtain ⟨n, hv⟩ := hp i hi
  have hv' : cl v9 i 2 = .int (cl v9 i 2).toInt := by rw [hv]; rfl
  have l1 : pl v6 v9 i < len v6 := fd_lt
  have l2 := fd_lt (l := v2) (key := cl v9 i 1)
  have g2 := fd_ge (l := v2) (key := cl v9 i 1)
  have hpl : fd v6 (cl v9 i 0) = pl v6 v9 i := rfl
  rw [e21_1 (h0 := rfl), ifT (by omega), ifF (by omega), wrapN (by omega)]
  simp only [f9_is (v0 := v6) (by omega), f9_is (v0 := v2) (by omega), sl_row0, sl_rowS, toInt_int, decide_true, cond_true, hpl, decide_eq_true l1, decide_eq_false (show ¬ pl v6 v9 i < 0 by omega), cond_false]
  have key : ∀ w : Int, pv v2 v9 v11 i = w → cond (decide (w < 0)) (D.row [.int 1, .int 0, .int 0, .int 0, .int 0, .int 0, .int 3]) (cond (decide ((cl v6 (pl v6 v9 i) 1).toInt < w)) (D.row [.int 1, .int 0, .int 0, .int 0, .int 0, .int 0, .int 3])
      (cond (decide (pl v6 v9 i = 0)) (f21_1 v9 (.int (i + 1 : Nat)) v0 v1 v2 v3 v4 v5 v6 v7 (.int st) (.int (kv v11 0)) (.int (kv v11 1)) (.int (kv v11 2)) (.int (kv v11 3)) (.int st') (.int w) (.int (vs v2 v6 v9 v11 1 i)) (.int (vs v2 v6 v9 v11 2 i)) (.int (vs v2 v6 v9 v11 3 i)))
      (cond (decide (pl v6 v9 i = 1)) (f21_1 v9 (.int (i + 1 : Nat)) v0 v1 v2 v3 v4 v5 v6 v7 (.int st) (.int (kv v11 0)) (.int (kv v11 1)) (.int (kv v11 2)) (.int (kv v11 3)) (.int st') (.int (vs v2 v6 v9 v11 0 i)) (.int w) (.int (vs v2 v6 v9 v11 2 i)) (.int (vs v2 v6 v9 v11 3 i)))
      (cond (decide (pl v6 v9 i = 2)) (f21_1 v9 (.int (i + 1 : Nat)) v0 v1 v2 v3 v4 v5 v6 v7 (.int st) (.int (kv v11 0)) (.int (kv v11 1)) (.int (kv v11 2)) (.int (kv v11 3)) (.int st') (.int (vs v2 v6 v9 v11 0 i)) (.int (vs v2 v6 v9 v11 1 i)) (.int w) (.int (vs v2 v6 v9 v11 3 i)))
      (cond (decide (pl v6 v9 i = 3)) (f21_1 v9 (.int (i + 1 : Nat)) v0 v1 v2 v3 v4 v5 v6 v7 (.int st) (.int (kv v11 0)) (.int (kv v11 1)) (.int (kv v11 2)) (.int (kv v11 3)) (.int st') (.int (vs v2 v6 v9 v11 0 i)) (.int (vs v2 v6 v9 v11 1 i)) (.int (vs v2 v6 v9 v11 2 i)) (.int w)) (D.row [])))))) =
      cond (badV v2 v6 v9 v11 i) (.row [.int 1, .int 0, .int 0, .int 0, .int 0, .int 0, .int 3]) (f21_1 v9 (.int (i + 1 : Nat)) v0 v1 v2 v3 v4 v5 v6 v7 (.int st) (.int (kv v11 0)) (.int (kv v11 1)) (.int (kv v11 2)) (.int (kv v11 3)) (.int st') (.int (vs v2 v6 v9 v11 0 (i + 1))) (.int (vs v2 v6 v9 v11 1 (i + 1))) (.int (vs v2 v6 v9 v11 2 (i + 1))) (.int (vs v2 v6 v9 v11 3 (i + 1)))) := by
    intro w hw
    unfold badV
    simp only [vs_succ, hw]
    cases decide (w < 0)
    rotate_left
    · rfl
    cases decide ((cl v6 (pl v6 v9 i) 1).toInt < w)
    rotate_left
    · rfl
    simp only [cond_false, Bool.false_or]
    by_cases k0 : pl v6 v9 i = 0
    · rw [ifT k0, if_pos (by omega), if_neg (by omega), if_neg (by omega), if_neg (by omega)]
    rw [ifF k0]
    by_cases k1 : pl v6 v9 i = 1
    · rw [ifT k1, if_neg (by omega), if_pos (by omega), if_neg (by omega), if_neg (by omega)]
    rw [ifF k1]
    by_cases k2 : pl v6 v9 i = 2
    · rw [ifT k2, if_neg (by omega), if_neg (by omega), if_pos (by omega), if_neg (by omega)]
    rw [ifF k2]
    have k3 : pl v6 v9 i = 3 := by omega
    rw [ifT k3, if_neg (by omega), if_neg (by omega), if_neg (by omega), if_pos (by omega)]
  have pvT : fd v2 (cl v9 i 1) < 0 → pv v2 v9 v11 i = (cl v9 i 2).toInt := fun h => ifT h
  have pvF : ∀ m : Nat, fd v2 (cl v9 i 1) = m → pv v2 v9 v11 i = IntKind.wrap .i64 ((cl v9 i 2).toInt + kv v11 m) := fun m h => by
    unfold pv
    rw [ifF (by omega), h]
    rfl
  rcases g2 with g | g
  · rw [ifT (by omega)]
    refine Eq.trans ?_ (key _ (pvT (by omega)))
    rw [← hv']
  rw [ifF (by omega)]
  by_cases k0 : fd v2 (cl v9 i 1) = 0
  · rw [ifT k0]
    exact key _ (pvF 0 k0)
  rw [ifF k0]
  by_cases k1 : fd v2 (cl v9 i 1) = 1
  · rw [ifT k1]
    exact key _ (pvF 1 k1)
  rw [ifF k1]
  by_cases k2 : fd v2 (cl v9 i 1) = 2
  · rw [ifT k2]
    exact key _ (pvF 2 k2)
  rw [ifF k2]
  have k3 : fd v2 (cl v9 i 1) = 3 := by omega
  rw [ifT k3]
  exact key _ (pvF 3 k3)
theorem f21_is {st : Nat} (hp : PairOk v9) (hn5 : len v5 < 1000) (hn8 : len v8 < 1000) (hn : len v9 < 1000) (h2 : len v2 ≤ 4) (h6 : len v6 ≤ 4) (hst : st < len v1) (h0 : ∀ i, i < len v9 → 0 ≤ pl v6 v9 i) :
    f21_0 v0 v1 v2 v3 v4 v5 v6 v7 v8 v9 (.int (st : Nat)) (.int (kv v11 0)) (.int (kv v11 1)) (.int (kv v11 2)) (.int (kv v11 3)) = cond (decide (fd v8 (cl v1 st 0) < 0)) (.row [.int 1, .int 0, .int 0, .int 0, .int 0, .int 0, .int 9])
      (cond (decide (fdG (badV v2 v6 v9 v11) (len v9) 0 < 0)) (.row [.int 1, .int (fd v5 (cl v8 (fd v8 (cl v1 st 0)) 1)), .int (vs v2 v6 v9 v11 0 (len v9)), .int (vs v2 v6 v9 v11 1 (len v9)), .int (vs v2 v6 v9 v11 2 (len v9)), .int (vs v2 v6 v9 v11 3 (len v9)), .int 0]) (.row [.int 1, .int 0, .int 0, .int 0, .int 0, .int 0, .int 3])) := by
  rw [e21_0]
  have l := fd_lt (l := v8) (key := cl v1 st 0)
  simp only [f20_is hn8 hst, f8_is (v0 := v5) (by omega), sl_row0, sl_rowS, toInt_int, decide_true, cond_true, decide_eq_true l]
  congr 1
  have L := look (F := fun j => f21_1 v9 (.int (j : Nat)) v0 v1 v2 v3 v4 v5 v6 v7 (.int (st : Nat)) (.int (kv v11 0)) (.int (kv v11 1)) (.int (kv v11 2)) (.int (kv v11 3)) (.int (fd v5 (cl v8 (fd v8 (cl v1 st 0)) 1))) (.int (vs v2 v6 v9 v11 0 j)) (.int (vs v2 v6 v9 v11 1 j)) (.int (vs v2 v6 v9 v11 2 j)) (.int (vs v2 v6 v9 v11 3 j))) (n := len v9) (bad := badV v2 v6 v9 v11) (B := fun _ => .row [.int 1, .int 0, .int 0, .int 0, .int 0, .int 0, .int 3]) (fun j hj => f21_step hp hn h2 h6 hj (h0 j hj))
  refine L.trans ?_
  congr 1
  show f21_1 v9 (.int (len v9 : Nat)) v0 v1 v2 v3 v4 v5 v6 v7 (.int (st : Nat)) (.int (kv v11 0)) (.int (kv v11 1)) (.int (kv v11 2)) (.int (kv v11 3)) (.int (fd v5 (cl v8 (fd v8 (cl v1 st 0)) 1))) (.int (vs v2 v6 v9 v11 0 (len v9))) (.int (vs v2 v6 v9 v11 1 (len v9))) (.int (vs v2 v6 v9 v11 2 (len v9))) (.int (vs v2 v6 v9 v11 3 (len v9))) = _
  rw [e21_1 (h0 := rfl), ifF (by omega)]
/-! the document's way -/
theorem chain {F : Nat → D} {n : Nat} (hs : ∀ j, j < n → F j = F (j + 1)) : F 0 = F n := by
  have := look (F := F) (n := n) (bad := fun _ => false) (B := fun _ => .row []) (fun j hj => (hs j hj).trans rfl)
  rw [fdG_all (fun _ _ _ => rfl)] at this
  exact this
theorem f24a {L : D} (hn : len v8 < 1000) (hd : ∀ i, i < len v8 → twice v8 i = false) : f24_1 (.bool false) (.int 0) v4 v5 v6 v7 v0 v1 v2 v3 v8 v9 v10 v11 (strD 0 0) L = cond (decide (fd v8 v10 < 0)) (.row [.int 1, strD 0 0, nilD, .bool true, .int 9]) (f24_2 (.int 0) v4 v5 v6 v7 v0 v1 v2 v3 v8 v9 v10 v11 (cl v8 (fd v8 v10) 1) L) := by
  have g := fd_ge (l := v8) (key := v10)
  have C := chain (F := fun i : Nat => f24_1 (.bool (decide (0 ≤ fd v8 v10 ∧ fd v8 v10 < i))) (.int (i : Nat)) v4 v5 v6 v7 v0 v1 v2 v3 v8 v9 v10 v11 (if 0 ≤ fd v8 v10 ∧ fd v8 v10 < i then cl v8 (fd v8 v10) 1 else strD 0 0) L) (n := len v8) (fun i hi => by
    show f24_1 (.bool (decide (0 ≤ fd v8 v10 ∧ fd v8 v10 < i))) (.int (i : Nat)) v4 v5 v6 v7 v0 v1 v2 v3 v8 v9 v10 v11 (if 0 ≤ fd v8 v10 ∧ fd v8 v10 < i then cl v8 (fd v8 v10) 1 else strD 0 0) L = f24_1 (.bool (decide (0 ≤ fd v8 v10 ∧ fd v8 v10 < (i + 1 : Nat)))) (.int (i + 1 : Nat)) v4 v5 v6 v7 v0 v1 v2 v3 v8 v9 v10 v11 (if 0 ≤ fd v8 v10 ∧ fd v8 v10 < (i + 1 : Nat) then cl v8 (fd v8 v10) 1 else strD 0 0) L
    rw [e24_1, ifT (by omega), ifF (by omega), wrapN (by omega)]
    cases q : D.strEq (cl v8 i 0) v10
    · have : fd v8 v10 ≠ i := fun c => by
        have a := fd_is (l := v8) (key := v10) (by omega)
        rw [c, q] at a
        cases a
      rw [cond_false, decide_eq_decide.2 (show (0 ≤ fd v8 v10 ∧ fd v8 v10 < i) ↔ (0 ≤ fd v8 v10 ∧ fd v8 v10 < (i + 1 : Nat)) by omega)]
      congr 1
      by_cases c : 0 ≤ fd v8 v10 ∧ fd v8 v10 < i
      · rw [if_pos c, if_pos (by omega)]
      · rw [if_neg c, if_neg (by omega)]
    · have a := fdG_le (p := fun j => D.strEq (cl v8 j 0) v10) (k := len v8) (i := 0) (j := i) (by omega) (by omega) q
      have a : 0 ≤ fd v8 v10 ∧ fd v8 v10 ≤ i := a
      have e : fd v8 v10 = i := by
        refine Int.le_antisymm a.2 (Int.not_lt.1 fun c => ?_)
        have b := fd_is a.1
        have t := hd i hi
        unfold twice at t
        have t : decide (fdG (fun j => D.strEq (cl v8 j 0) (cl v8 i 0)) i 0 < 0) = true := by simpa using t
        have n := fdG_no (p := fun j => D.strEq (cl v8 j 0) (cl v8 i 0)) (k := i) (i := 0) (j := (fd v8 v10).toNat) (by omega) (.inr ⟨dT t, by omega⟩)
        have n : D.strEq (cl v8 ((fd v8 v10).toNat : Int) 0) (cl v8 i 0) = false := n
        rw [show ((fd v8 v10).toNat : Int) = fd v8 v10 by omega, strEqD_congr b, strEqD_comm, q] at n
        cases n
      rw [cond_true, decide_eq_true (show 0 ≤ fd v8 v10 ∧ fd v8 v10 < (i + 1 : Nat) by omega), if_pos (by omega), e])
  have z : ¬ (0 ≤ fd v8 v10 ∧ fd v8 v10 < (0 : Nat)) := by omega
  have C : f24_1 (.bool (decide (0 ≤ fd v8 v10 ∧ fd v8 v10 < (0 : Nat)))) (.int (0 : Nat)) v4 v5 v6 v7 v0 v1 v2 v3 v8 v9 v10 v11 (if 0 ≤ fd v8 v10 ∧ fd v8 v10 < (0 : Nat) then cl v8 (fd v8 v10) 1 else strD 0 0) L = f24_1 (.bool (decide (0 ≤ fd v8 v10 ∧ fd v8 v10 < len v8))) (.int (len v8 : Nat)) v4 v5 v6 v7 v0 v1 v2 v3 v8 v9 v10 v11 (if 0 ≤ fd v8 v10 ∧ fd v8 v10 < len v8 then cl v8 (fd v8 v10) 1 else strD 0 0) L := C
  rw [decide_eq_false z, if_neg z] at C
  refine (show f24_1 (.bool false) (.int 0) v4 v5 v6 v7 v0 v1 v2 v3 v8 v9 v10 v11 (strD 0 0) L = _ from C).trans ?_
  have l := fd_lt (l := v8) (key := v10)
  rw [e24_1, ifF (by omega)]
  by_cases c : fd v8 v10 < 0
  · rw [ifT c, decide_eq_false (by omega)]
    rfl
  · rw [ifF c, decide_eq_true (by omega), if_pos (by omega)]
    rfl
end
end Cv
namespace Cv
open Go Go.AE
/-! CONVERTCHECKS: Apply -/
/-- the list of the values after i pairs -/
def LV (v2 v6 v9 v11 : D) (i : Nat) : D := .slc false ((List.range (len v6)).map fun j => .row [.int (vs v2 v6 v9 v11 j i)])
theorem len_LV {v2 v6 v9 v11 : D} {i : Nat} : len (LV v2 v6 v9 v11 i) = len v6 := by unfold LV len; simp [D.rows]
theorem cl_LV {v2 v6 v9 v11 : D} {i j : Nat} (h : j < len v6) : cl (LV v2 v6 v9 v11 i) j 0 = .int (vs v2 v6 v9 v11 j i) := by
  show ((((List.range (len v6)).map fun j => D.row [.int (vs v2 v6 v9 v11 j i)])[j]?).getD default).cells.getD 0 default = _
  rw [List.getElem?_map, List.getElem?_range h]
  rfl
theorem LV_zero {v2 v6 v9 v11 : D} : rp (len v6 : Nat) (.row [.int 0]) = LV v2 v6 v9 v11 0 := by
  show D.slc false (List.replicate _ _) = .slc false _
  congr 1
  refine List.ext_getElem (by simp) fun j h1 h2 => ?_
  rw [List.getElem_replicate, List.getElem_map]
  rfl
theorem LV_upd {v2 v6 v9 v11 : D} {i : Nat} (h0 : 0 ≤ pl v6 v9 i) : upd (LV v2 v6 v9 v11 i) (pl v6 v9 i) 0 (.int (pv v2 v9 v11 i)) = LV v2 v6 v9 v11 (i + 1) := by
  show D.slc false (List.modify _ _ _) = .slc false _
  congr 1
  refine List.ext_getElem (by simp [LV, D.rows]) fun j h1 h2 => ?_
  have hj : j < len v6 := by simpa using h2
  rw [List.getElem_modify]
  show (if (pl v6 v9 i).toNat = j then D.row ((((List.range (len v6)).map fun j => D.row [.int (vs v2 v6 v9 v11 j i)])[j]'(by simpa using hj)).cells.set 0 (.int (pv v2 v9 v11 i))) else (((List.range (len v6)).map fun j => D.row [.int (vs v2 v6 v9 v11 j i)])[j]'(by simpa using hj))) = _
  simp only [List.getElem_map, List.getElem_range, vs_succ]
  by_cases q : pl v6 v9 i = j
  · rw [if_pos (by omega), if_pos q]
    rfl
  · rw [if_neg (by omega), if_neg q]
section
variable [While]
variable {v0 v1 v2 v3 v4 v5 v6 v7 v8 v9 v10 v11 v13 : D}
theorem f24b (hx : NumOk v11) (hp : PairOk v9) (hn2 : len v2 < 1000) (hn5 : len v5 < 1000) (hn6 : len v6 < 1000) (hn : len v9 < 1000) (hl : len v11 = len v2) (h0 : ∀ i, i < len v9 → 0 ≤ pl v6 v9 i) :
    f24_2 (.int 0) v4 v5 v6 v7 v0 v1 v2 v3 v8 v9 v10 v11 v13 (LV v2 v6 v9 v11 0) = cond (isC v5 v6 v13 (LV v2 v6 v9 v11 (len v9))) (.row [.int 1, v13, LV v2 v6 v9 v11 (len v9), .bool false, .int 0]) (.row [.int 1, strD 0 0, nilD, .bool true, .int 3]) := by
  have C := chain (F := fun i : Nat => f24_2 (.int (i : Nat)) v4 v5 v6 v7 v0 v1 v2 v3 v8 v9 v10 v11 v13 (LV v2 v6 v9 v11 i)) (n := len v9) (fun i hi => by
    show f24_2 (.int (i : Nat)) v4 v5 v6 v7 v0 v1 v2 v3 v8 v9 v10 v11 v13 (LV v2 v6 v9 v11 i) = f24_2 (.int (i + 1 : Nat)) v4 v5 v6 v7 v0 v1 v2 v3 v8 v9 v10 v11 v13 (LV v2 v6 v9 v11 (i + 1))
    have l1 : pl v6 v9 i < len v6 := fd_lt
    have l2 := fd_lt (l := v2) (key := cl v9 i 1)
    have g2 := fd_ge (l := v2) (key := cl v9 i 1)
    have hpl : fd v6 (cl v9 i 0) = pl v6 v9 i := rfl
    have z := h0 i hi
    obtain ⟨n, hv⟩ := hp i hi
    rw [e24_2, ifT (by omega), ifF (by omega), wrapN (by omega)]
    simp only [f17_is (v0 := v0) (v1 := v1) (v2 := v2) (v3 := v3) (by omega), f17_is (v0 := v4) (v1 := v5) (v2 := v6) (v3 := v7) (by omega), sl_row0, sl_rowS, toInt_int, decide_true, cond_true, hpl, len_LV, decide_eq_true l1, decide_eq_false (show ¬ pl v6 v9 i < 0 by omega), cond_false]
    rw [← LV_upd z]
    unfold pv
    by_cases c : fd v2 (cl v9 i 1) < 0
    · rw [ifT c, ifT c, hv]
      rfl
    · rw [ifF c, ifF c, ifT (by omega)]
      have k : (cl v11 (fd v2 (cl v9 i 1)) 0).toInt = kv v11 (fd v2 (cl v9 i 1)).toNat := by
        unfold kv
        rw [if_pos (by omega), show (((fd v2 (cl v9 i 1)).toNat : Nat) : Int) = fd v2 (cl v9 i 1) by omega]
      rw [k])
  refine (show f24_2 (.int 0) v4 v5 v6 v7 v0 v1 v2 v3 v8 v9 v10 v11 v13 (LV v2 v6 v9 v11 0) = f24_2 (.int (len v9 : Nat)) v4 v5 v6 v7 v0 v1 v2 v3 v8 v9 v10 v11 v13 (LV v2 v6 v9 v11 (len v9)) from C).trans ?_
  rw [e24_2, ifF (by omega)]
  simp only [f23_is (v0 := v4) (v1 := v5) (v2 := v6) (v3 := v7) hn5 hn6, sl_row0, sl_rowS, toInt_int, toBool_bool, decide_true, cond_true]
theorem f24_is (hx : NumOk v11) (hp : PairOk v9) (hn2 : len v2 < 1000) (hn5 : len v5 < 1000) (hn6 : len v6 < 1000) (hn8 : len v8 < 1000) (hn : len v9 < 1000) (hl : len v11 = len v2) (hd : ∀ i, i < len v8 → twice v8 i = false) (h0 : ∀ i, i < len v9 → 0 ≤ pl v6 v9 i) :
    f24_0 v4 v5 v6 v7 v0 v1 v2 v3 v8 v9 v10 v11 = cond (decide (fd v8 v10 < 0)) (.row [.int 1, strD 0 0, nilD, .bool true, .int 9]) (cond (isC v5 v6 (cl v8 (fd v8 v10) 1) (LV v2 v6 v9 v11 (len v9))) (.row [.int 1, cl v8 (fd v8 v10) 1, LV v2 v6 v9 v11 (len v9), .bool false, .int 0]) (.row [.int 1, strD 0 0, nilD, .bool true, .int 3])) := by
  rw [e24_0, ifT (by omega), f24a hn8 hd, LV_zero (v2 := v2) (v6 := v6) (v9 := v9) (v11 := v11), f24b hx hp hn2 hn5 hn6 hn hl h0]
/-! both ways refuse the same -/
theorem vs_or {j i : Nat} : vs v2 v6 v9 v11 j i = 0 ∨ ∃ k, k < i ∧ pl v6 v9 k = j ∧ vs v2 v6 v9 v11 j i = pv v2 v9 v11 k := by
  induction i with
  | zero => exact .inl rfl
  | succ i ih =>
    rw [vs_succ]
    by_cases c : pl v6 v9 i = j
    · rw [if_pos c]
      exact .inr ⟨i, by omega, c, rfl⟩
    · rw [if_neg c]
      rcases ih with h | ⟨k, h1, h2, h3⟩
      · exact .inl h
      · exact .inr ⟨k, by omega, h2, h3⟩
theorem vs_keep {j i : Nat} : ∀ {n : Nat}, i + 1 + n ≤ len v9 → pl v6 v9 i = j → (∀ k, i < k → k < len v9 → pl v6 v9 k ≠ j) → vs v2 v6 v9 v11 j (i + 1 + n) = pv v2 v9 v11 i
  | 0, _, h, _ => by
    show vs v2 v6 v9 v11 j (i + 1) = _
    rw [vs_succ, if_pos h]
  | n + 1, hn, h, hk => by
    show vs v2 v6 v9 v11 j (i + 1 + n + 1) = _
    rw [vs_succ, if_neg (hk _ (by omega) (by omega))]
    exact vs_keep (by omega) h hk
theorem pl_ne {i k : Nat} (hd : ∀ i, i < len v9 → twice v9 i = false) (h0 : ∀ i, i < len v9 → 0 ≤ pl v6 v9 i) (h : i < k) (hk : k < len v9) : pl v6 v9 k ≠ pl v6 v9 i := by
  intro e
  have a := fd_is (h0 i (by omega))
  have b := fd_is (h0 k hk)
  have e : fd v6 (cl v9 k 0) = fd v6 (cl v9 i 0) := e
  rw [e, strEqD_congr a] at b
  have t := hd k hk
  unfold twice at t
  have t : decide (fdG (fun j => D.strEq (cl v9 j 0) (cl v9 k 0)) k 0 < 0) = true := by simpa using t
  have n := fdG_no (p := fun j => D.strEq (cl v9 j 0) (cl v9 k 0)) (k := k) (i := 0) (j := i) (by omega) (.inr ⟨dT t, by omega⟩)
  have n : D.strEq (cl v9 i 0) (cl v9 k 0) = false := n
  rw [b] at n
  cases n
theorem same_range (hd : ∀ i, i < len v9 → twice v9 i = false) (h0 : ∀ i, i < len v9 → 0 ≤ pl v6 v9 i) (hlim : ∀ j : Nat, j < len v6 → 0 ≤ (cl v6 j 1).toInt) (hst : 0 ≤ fd v5 v13) :
    isC v5 v6 v13 (LV v2 v6 v9 v11 (len v9)) = decide (fdG (badV v2 v6 v9 v11) (len v9) 0 < 0) := by
  unfold isC
  rw [decide_eq_false (show ¬ fd v5 v13 < 0 by omega), len_LV, decide_eq_true rfl]
  show (true && (true && decide (fdG (badX v6 (LV v2 v6 v9 v11 (len v9))) (len v6) 0 < 0))) = _
  rw [Bool.true_and, Bool.true_and]
  refine decide_eq_decide.2 ⟨fun h => ?_, fun h => ?_⟩
  · have : ∀ i, 0 ≤ i → i < 0 + len v9 → badV v2 v6 v9 v11 i = false := fun i _ hi => by
      have l1 : pl v6 v9 i < len v6 := fd_lt
      have z := h0 i (by omega)
      have n := fdG_no (p := badX v6 (LV v2 v6 v9 v11 (len v9))) (k := len v6) (i := 0) (j := (pl v6 v9 i).toNat) (by omega) (.inr ⟨h, by omega⟩)
      have k := vs_keep (v2 := v2) (v6 := v6) (v9 := v9) (v11 := v11) (j := (pl v6 v9 i).toNat) (i := i) (n := len v9 - (i + 1)) (by omega) (by omega) (fun k hk hk' c => pl_ne hd h0 hk hk' (by omega))
      rw [show i + 1 + (len v9 - (i + 1)) = len v9 by omega] at k
      unfold badX at n
      rw [cl_LV (by omega), toInt_int, k, show (((pl v6 v9 i).toNat : Nat) : Int) = pl v6 v9 i by omega] at n
      exact n
    rw [fdG_all this]
    omega
  · have : ∀ j, 0 ≤ j → j < 0 + len v6 → badX v6 (LV v2 v6 v9 v11 (len v9)) j = false := fun j _ hj => by
      unfold badX
      rw [cl_LV (by omega), toInt_int]
      rcases vs_or (v2 := v2) (v6 := v6) (v9 := v9) (v11 := v11) (j := j) (i := len v9) with e | ⟨k, h1, h2, h3⟩
      · rw [e, decide_eq_false (by omega), decide_eq_false (by have := hlim j (by omega); omega)]
        rfl
      · have n := fdG_no (p := badV v2 v6 v9 v11) (k := len v9) (i := 0) (j := k) (by omega) (.inr ⟨h, by omega⟩)
        unfold badV at n
        rw [h3, ← h2]
        exact n
    rw [fdG_all this]
    omega
end
end Cv
namespace Cv
open Go Go.AE
/-! CONVERTCHECKS: the law -/
section
variable [While]
variable {v0 v1 v2 v3 v4 v5 v6 v7 v8 v9 v10 v11 : D}
theorem chk_cases (v0 v1 v2 v3 v4 v5 v6 v7 v8 v9 : D) : ∃ a e, chk v0 v1 v2 v3 v4 v5 v6 v7 v8 v9 = .row [.int 1, .int a, .int e] ∧ (e = 0 → rok v0 v1 v2 v3 = true ∧ rok v4 v5 v6 v7 = true ∧ (fdG (badP v1 v5 v8) (len v8) 0 < 0) ∧ (fdG (badQ v2 v6 v9) (len v9) 0 < 0)) := by
  unfold chk
  cases rok v0 v1 v2 v3
  · exact ⟨_, _, rfl, fun h => by cases h⟩
  cases rok v4 v5 v6 v7
  · exact ⟨_, _, rfl, fun h => by cases h⟩
  simp only [cond_true]
  by_cases c1 : 24 < (len v8 : Int)
  · rw [ifT c1]; exact ⟨_, _, rfl, fun h => by cases h⟩
  rw [ifF c1]
  by_cases c2 : fdG (badP v1 v5 v8) (len v8) 0 < 0
  rotate_left
  · rw [ifF c2]; exact ⟨_, _, rfl, fun h => by cases h⟩
  rw [ifT c2]
  by_cases c3 : 4 < (len v9 : Int)
  · rw [ifT c3]; exact ⟨_, _, rfl, fun h => by cases h⟩
  rw [ifF c3]
  by_cases c4 : fdG (badQ v2 v6 v9) (len v9) 0 < 0
  rotate_left
  · rw [ifF c4]; exact ⟨_, _, rfl, fun h => by cases h⟩
  rw [ifT c4]
  exact ⟨_, _, rfl, fun _ => ⟨by simp, by simp, c2, c4⟩⟩
theorem rok_few (h : rok v0 v1 v2 v3 = true) : len v2 ≤ 4 ∧ ∀ j : Nat, j < len v2 → 0 ≤ (cl v2 j 1).toInt := by
  unfold rok at h
  simp only [Bool.and_eq_true] at h
  obtain ⟨_, h, _, _⟩ := h
  unfold fewC at h
  by_cases c : 4 < (len v2 : Int)
  · rw [ifT c] at h
    cases h
  rw [ifF c] at h
  refine ⟨by omega, fun j hj => ?_⟩
  have n := fdG_no (p := badC v2) (k := len v2) (i := 0) (j := j) (by omega) (.inr ⟨dT h, by omega⟩)
  unfold badC at n
  simp only [Bool.or_eq_false_iff] at n
  have := dF n.1.2
  omega
theorem law (hs : StepOk v3) (hs7 : StepOk v7) (hp : PairOk v9) (hx : NumOk v11) : f26_0 v0 v1 v2 v3 v4 v5 v6 v7 v8 v9 v10 v11 = .row [.int 1, .bool true] := by
  rw [e26_0 (h0 := rfl) (h1 := rfl) (h2 := rfl) (h3 := rfl) (h4 := rfl) (h5 := rfl) (h6 := rfl) (h7 := rfl) (h8 := rfl) (h9 := rfl) (h10 := rfl) (h11 := rfl) (h12 := rfl) (h13 := rfl) (h14 := rfl)]
  have k0 : decide ((sl f0_0 0).toInt = 1) = true := by rw [e0_0]; rfl
  have S : ∀ b b' : Bool, f25_0 (strD 0 0) nilD (.bool b) (strD 0 0) nilD (.bool b') = .row [.int 1, .bool true] := fun b b' => f25_is strEqD_refl rfl (by show (0 : Nat) < 1000; omega) fun j hj => rfl
  simp only [k0, cond_true]
  by_cases c1 : 8 < (len v1 : Int)
  · rw [ifT c1]
  rw [ifF c1]
  by_cases c2 : 20 < (len v3 : Int)
  · rw [ifT c2]
  rw [ifF c2]
  by_cases c3 : 5 < (len v2 : Int)
  · rw [ifT c3]
  rw [ifF c3]
  by_cases c4 : 8 < (len v5 : Int)
  · rw [ifT c4]
  rw [ifF c4]
  by_cases c5 : 20 < (len v7 : Int)
  · rw [ifT c5]
  rw [ifF c5]
  by_cases c6 : 5 < (len v6 : Int)
  · rw [ifT c6]
  rw [ifF c6]
  by_cases c7 : 30 < (len v8 : Int)
  · rw [ifT c7]
  rw [ifF c7]
  by_cases c8 : 8 < (len v9 : Int)
  · rw [ifT c8]
  rw [ifF c8]
  by_cases c9 : 10 < (len v11 : Int)
  · rw [ifT c9]
  rw [ifF c9]
  obtain ⟨a, e, hc, he⟩ := chk_cases v0 v1 v2 v3 v4 v5 v6 v7 v8 v9
  have H10 := (f10_is (v0 := v0) (v1 := v1) (v2 := v2) (v3 := v3) (v4 := v4) (v5 := v5) (v6 := v6) (v7 := v7) (v8 := v8) (v9 := v9) hs hs7 (by omega) (by omega) (by omega) (by omega) (by omega) (by omega) (by omega) (by omega)).trans hc
  have H18 := (f18_is (v0 := v0) (v1 := v1) (v2 := v2) (v3 := v3) (v4 := v4) (v5 := v5) (v6 := v6) (v7 := v7) (v8 := v8) (v9 := v9) hs hs7 hp (by omega) (by omega) (by omega) (by omega) (by omega) (by omega) (by omega) (by omega)).trans hc
  by_cases c : e = 0
  rotate_left
  · simp only [H10, H18, S, sl_row0, sl_rowS, toInt_int, toBool_bool, decide_true, cond_true, ifF c]
  obtain ⟨r1, r2, p1, p2⟩ := he c
  subst c
  have H22 := f22_is (v0 := v0) (v1 := v1) (v2 := v2) (v3 := v3) (v10 := v10) (v11 := v11) (by omega) (by omega)
  have H19 := f19_is (v0 := v0) (v1 := v1) (v2 := v2) (v3 := v3) (v10 := v10) (v11 := v11) hx (by omega) (by omega)
  cases hi : isC v1 v2 v10 v11
  · rw [hi] at H22 H19
    simp only [cond_false] at H19
    simp only [H10, H18, H19, H22, S, sl_row0, sl_rowS, toInt_int, toBool_bool, decide_true, cond_true, cond_false]
  rw [hi] at H22 H19
  simp only [cond_true] at H19
  -- what is known of a converter that is right
  obtain ⟨q2, _⟩ := rok_few r1
  obtain ⟨q6, lim⟩ := rok_few r2
  have P : ∀ i, i < len v8 → 0 ≤ fd v1 (cl v8 i 0) ∧ 0 ≤ fd v5 (cl v8 i 1) ∧ twice v8 i = false := fun i h => by
    have n := fdG_no (p := badP v1 v5 v8) (k := len v8) (i := 0) (j := i) (by omega) (.inr ⟨p1, by omega⟩)
    unfold badP at n
    simp only [Bool.or_eq_false_iff] at n
    exact ⟨Int.not_lt.1 (dF n.1), Int.not_lt.1 (dF n.2.1), n.2.2⟩
  have Q : ∀ i, i < len v9 → 0 ≤ pl v6 v9 i ∧ twice v9 i = false := fun i h => by
    have n := fdG_no (p := badQ v2 v6 v9) (k := len v9) (i := 0) (j := i) (by omega) (.inr ⟨p2, by omega⟩)
    unfold badQ at n
    simp only [Bool.or_eq_false_iff] at n
    exact ⟨Int.not_lt.1 (dF n.1), n.2.2.1⟩
  have hi' := hi
  unfold isC at hi'
  simp only [Bool.and_eq_true, Bool.not_eq_true'] at hi'
  obtain ⟨i1, i2, _⟩ := hi'
  have i1 := dF i1
  have i2 := dT i2
  have lst := fd_lt (l := v1) (key := v10)
  have est : ((fd v1 v10).toNat : Int) = fd v1 v10 := by omega
  have H21 := f21_is (v0 := v0) (v1 := v1) (v2 := v2) (v3 := v3) (v4 := v4) (v5 := v5) (v6 := v6) (v7 := v7) (v8 := v8) (v9 := v9) (v11 := v11) (st := (fd v1 v10).toNat) hp (by omega) (by omega) (by omega) q2 q6 (by omega) (fun i h => (Q i h).1)
  have H24 := f24_is (v0 := v0) (v1 := v1) (v2 := v2) (v3 := v3) (v4 := v4) (v5 := v5) (v6 := v6) (v7 := v7) (v8 := v8) (v9 := v9) (v10 := v10) (v11 := v11) hx hp (by omega) (by omega) (by omega) (by omega) (by omega) (by omega) (fun i h => (P i h).2.2) (fun i h => (Q i h).1)
  rw [est] at H21
  have kf : fd v8 (cl v1 (fd v1 v10) 0) = fd v8 v10 := by
    have b := fd_is (Int.not_lt.1 i1)
    unfold fd
    refine fdG_congr fun j _ _ => ?_
    show D.strEq (cl v8 j 0) (cl v1 (fd v1 v10) 0) = D.strEq (cl v8 j 0) v10
    rw [strEqD_comm, strEqD_congr b, strEqD_comm]
  rw [kf] at H21
  by_cases d1 : fd v8 v10 < 0
  · rw [ifT d1] at H21 H24
    simp only [H10, H18, H19, H21, H22, H24, S, sl_row0, sl_rowS, toInt_int, toBool_bool, decide_true, cond_true, cond_false, Int.reduceEq, decide_false]
  rw [ifF d1] at H21 H24
  have l8 := fd_lt (l := v8) (key := v10)
  have e8 : (((fd v8 v10).toNat : Nat) : Int) = fd v8 v10 := by omega
  have P8 := (P (fd v8 v10).toNat (by omega)).2.1
  rw [e8] at P8
  rw [same_range (fun i h => (Q i h).2) (fun i h => (Q i h).1) lim P8] at H24
  by_cases d2 : fdG (badV v2 v6 v9 v11) (len v9) 0 < 0
  rotate_left
  · rw [ifF d2] at H21 H24
    simp only [H10, H18, H19, H21, H22, H24, S, sl_row0, sl_rowS, toInt_int, toBool_bool, decide_true, cond_true, cond_false, Int.reduceEq, decide_false]
  rw [ifT d2] at H21 H24
  have l5 := fd_lt (l := v5) (key := cl v8 (fd v8 v10) 1)
  have m1 : decide (fd v5 (cl v8 (fd v8 v10) 1) < 0) = false := decide_eq_false (by omega)
  have m2 : decide (fd v5 (cl v8 (fd v8 v10) 1) < (len v5 : Int)) = true := decide_eq_true l5
  simp only [H10, H18, H19, H21, H22, H24, S, sl_row0, sl_rowS, toInt_int, toBool_bool, decide_true, cond_true, cond_false, Int.reduceEq, decide_false, m1, m2]
  have SS : ∀ l : D, len l = len v6 → (∀ j : Nat, j < len v6 → (cl l j 0).toInt = vs v2 v6 v9 v11 j (len v9)) → f25_0 (cl v5 (fd v5 (cl v8 (fd v8 v10) 1)) 0) l (.bool false) (cl v8 (fd v8 v10) 1) (LV v2 v6 v9 v11 (len v9)) (.bool false) = .row [.int 1, .bool true] := fun l h1 h2 =>
    f25_is (fd_is P8) (by rw [len_LV, h1]) (by omega) fun j hj => by rw [h2 j (by omega), cl_LV (by omega)]; rfl
  by_cases n0 : (len v6 : Int) = 0
  · rw [ifT n0, SS _ (by rw [len_emptyD]; omega) (fun j hj => by omega)]
    simp only [sl_row0, sl_rowS, toInt_int, toBool_bool, decide_true, cond_true]
  rw [ifF n0]
  by_cases n1 : (len v6 : Int) = 1
  · rw [ifT n1, SS _ (by rw [len_ad, len_emptyD]; omega) (fun j hj => by
      match j with
      | 0 => rfl
      | j + 1 => omega)]
    simp only [sl_row0, sl_rowS, toInt_int, toBool_bool, decide_true, cond_true]
  rw [ifF n1]
  by_cases n2 : (len v6 : Int) = 2
  · rw [ifT n2, SS _ (by rw [len_ad, len_ad, len_emptyD]; omega) (fun j hj => by
      match j with
      | 0 => rfl
      | 1 => rfl
      | j + 2 => omega)]
    simp only [sl_row0, sl_rowS, toInt_int, toBool_bool, decide_true, cond_true]
  rw [ifF n2]
  by_cases n3 : (len v6 : Int) = 3
  · rw [ifT n3, SS _ (by rw [len_ad, len_ad, len_ad, len_emptyD]; omega) (fun j hj => by
      match j with
      | 0 => rfl
      | 1 => rfl
      | 2 => rfl
      | j + 3 => omega)]
    simp only [sl_row0, sl_rowS, toInt_int, toBool_bool, decide_true, cond_true]
  rw [ifF n3]
  have n4 : (len v6 : Int) = 4 := by omega
  rw [ifT n4, SS _ (by rw [len_ad, len_ad, len_ad, len_ad, len_emptyD]; omega) (fun j hj => by
      match j with
      | 0 => rfl
      | 1 => rfl
      | 2 => rfl
      | 3 => rfl
      | j + 4 => omega)]
  simp only [sl_row0, sl_rowS, toInt_int, toBool_bool, decide_true, cond_true]
end
end Cv
