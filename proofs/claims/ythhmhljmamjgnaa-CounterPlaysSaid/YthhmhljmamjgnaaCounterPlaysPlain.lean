/- What is proved: what the plain functions over data say, whose trees the text before writes out: the law CounterPlays answers true. Conditions: those that each theorem states. -/
import Derived.Test.YthhmhljmamjgnaaCounterPlaysTree
set_option linter.unusedVariables false
set_option linter.unusedSectionVars false
namespace Go.AE

/-! WHAT A PRINTED PROGRAM DOES, STEP BY STEP -/
section
variable [While]
/-- the values of the unknowns at a place, with the named functions of a program -/
def atV (Ts : List (List (Tr Plf))) (xs : List D) : Val := valD (gAll Ts) xs
/-- what is left after a turn -/
def fin (Ts : List (List (Tr Plf))) (k : Nat) (V : Val) : Plf → D
  | .stuck => .row []
  | .done s cs => .row (.int (s + 1 : Nat) :: cs.map (evalD V))
  | .next j θ => gAll Ts k (.row (.int j :: θ.map (evalD V)))
def finT (Ts : List (List (Tr Plf))) (k : Nat) (V : Val) (t : Tr Plf) : D := fin Ts k V (t.get V)
theorem g_eq {Ts : List (List (Tr Plf))} (h : tabsLt 0 Ts = true) {k p : Nat} {T : List (Tr Plf)} {t : Tr Plf} {xs : List D} (hk : Ts[k]? = some T) (hp : T[p]? = some t) :
    gAll Ts k (.row (.int (p : Nat) :: xs)) = finT Ts k (atV Ts xs) t := by
  have hd : dstep T (gAll Ts) (.row (.int (p : Nat) :: xs)) = dlStep (atV Ts xs) (t.get (atV Ts xs)) := by
    show (match T[p]? with | some t => dlStep _ (t.get _) | none => none) = _
    rw [hp]
    rfl
  unfold finT fin
  split
  · rename_i e
    rw [e] at hd
    rw [gAll_eq h hk]
    rcases whileD_or (dstep T (gAll Ts)) (.row (.int (p : Nat) :: xs)) with q | ⟨n, q⟩
    · exact q
    · cases n with
      | zero => cases q
      | succ n =>
        simp only [runW, hd] at q
        cases q
  · rename_i e
    rw [e] at hd
    rw [gAll_eq h hk]
    exact whileD_done hd
  · rename_i e
    rw [e] at hd
    rw [gAll_eq h hk, whileD_next hd, ← gAll_eq h hk]
theorem finT_split {Ts : List (List (Tr Plf))} {k : Nat} {V : Val} {e : SB} {a b : Tr Plf} : finT Ts k V (.split e a b) = if evalB V e = true then finT Ts k V a else finT Ts k V b := by
  unfold finT
  rw [show (Tr.split e a b).get V = match evalB V e with | true => a.get V | false => b.get V from rfl]
  cases evalB V e <;> rfl
theorem finT_leaf {Ts : List (List (Tr Plf))} {k : Nat} {V : Val} {l : Plf} : finT Ts k V (.leaf l) = fin Ts k V l := rfl
theorem fin_stuck {Ts : List (List (Tr Plf))} {k : Nat} {V : Val} : fin Ts k V .stuck = .row [] := rfl
theorem fin_done {Ts : List (List (Tr Plf))} {k s : Nat} {V : Val} {cs : List SE} : fin Ts k V (.done s cs) = .row (.int (s + 1 : Nat) :: cs.map (evalD V)) := rfl
theorem fin_next {Ts : List (List (Tr Plf))} {k j : Nat} {V : Val} {θ : List SE} : fin Ts k V (.next j θ) = gAll Ts k (.row (.int j :: θ.map (evalD V))) := rfl
end
/-- whether x is below y, as the trees ask it -/
theorem lss_iff {V : Val} {a b : SE} : evalB V (.lss a b) = true ↔ (evalD V a).toInt < (evalD V b).toInt := by
  show decide _ = true ↔ _
  rw [decide_eq_true_eq]
theorem eql_iff {V : Val} {a b : SE} : evalB V (.eql a b) = true ↔ (evalD V a).toInt = (evalD V b).toInt := by
  show ((_ : Int) == _) = true ↔ _
  rw [beq_iff_eq]
theorem wrap_i64 {a : Int} (h : -9223372036854775808 ≤ a) (h' : a < 9223372036854775808) : IntKind.wrap .i64 a = a := by
  show (if (true && decide (a % (2 ^ 64 : Int) ≥ 2 ^ 63)) = true then a % (2 ^ 64 : Int) - 2 ^ 64 else a % (2 ^ 64 : Int)) = a
  split
  · rename_i q
    simp only [Bool.true_and, decide_eq_true_eq] at q
    omega
  · rename_i q
    simp only [Bool.true_and, decide_eq_true_eq] at q
    omega
theorem ev_add {V : Val} {a b : SE} (h : -9223372036854775808 ≤ (evalD V a).toInt + (evalD V b).toInt) (h' : (evalD V a).toInt + (evalD V b).toInt < 9223372036854775808) :
    evalD V (.arith .add .i64 a b) = .int ((evalD V a).toInt + (evalD V b).toInt) := by
  show D.int (IntKind.wrap .i64 _) = _
  rw [wrap_i64 h h']
theorem ev_sub {V : Val} {a b : SE} (h : -9223372036854775808 ≤ (evalD V a).toInt - (evalD V b).toInt) (h' : (evalD V a).toInt - (evalD V b).toInt < 9223372036854775808) :
    evalD V (.arith .sub .i64 a b) = .int ((evalD V a).toInt - (evalD V b).toInt) := by
  show D.int (IntKind.wrap .i64 _) = _
  rw [wrap_i64 h h']
end Go.AE
namespace Go.AE
/-! WORDS FOR PLAIN DATA -/
def len (d : D) : Nat := d.rows.length
def slen (d : D) : Nat := d.toStr.data.toList.length
def cl (a : D) (i : Int) (j : Nat) : D := (a.rows.getD i.toNat default).cells.getD j default
def sl (a : D) (j : Nat) : D := a.cells.getD j default
def nilD : D := .slc true []
def emptyD : D := .slc false []
def ad (a r : D) : D := .slc false (a.rows ++ [r])
def upd (a : D) (i : Int) (j : Nat) (x : D) : D := .slc a.isNil (a.rows.modify i.toNat fun r => .row (r.cells.set j x))
def rp (n : Int) (r : D) : D := .slc false (List.replicate n.toNat r)
def ct (a b : D) : D := .slc (a.isNil && b.rows.isEmpty) (a.rows ++ b.rows)
def sb (a : D) (lo hi : Int) : D := .slc a.isNil ((a.rows.drop lo.toNat).take (hi.toNat - lo.toNat))
def ni (a : D) (b : Bool) : D := .slc b a.rows
def strD (l b : Nat) : D := .str ⟨(unpackL l b).toArray⟩
def sCat (a b : D) : D := .str (a.toStr ++ b.toStr)
def sSub (a : D) (lo hi : Int) : D := .str (a.toStr.extract lo.toNat hi.toNat)
def sAt (a : D) (i : Int) : Int := ((a.toStr.data.toList[i.toNat]?).getD 0).toNat
def eqC (a : D) (l b : Nat) : Bool := strEq a.toStr.data.toList.length (packL a.toStr.data.toList) l b
def ari (op : BinOp) (k : IntKind) (x y : Int) : Int := match intBin op k x y with
  | some (.int _ n) => n
  | _ => 0
theorem ifT {α : Type} {p : Prop} [Decidable p] {a b : α} (h : p) : cond (decide p) a b = a := by rw [decide_eq_true h]; rfl
theorem ifF {α : Type} {p : Prop} [Decidable p] {a b : α} (h : ¬ p) : cond (decide p) a b = b := by rw [decide_eq_false h]; rfl
theorem cT {α : Type} {c : Bool} {a b : α} (h : c = true) : cond c a b = a := by rw [h]; rfl
theorem cF {α : Type} {c : Bool} {a b : α} (h : c = false) : cond c a b = b := by rw [h]; rfl
section
variable [While]
def walkT (Ts : List (List (Tr Plf))) (k : Nat) (V : Val) : Tr Plf → D
  | .leaf l => fin Ts k V l
  | .split e a b => cond (evalB V e) (walkT Ts k V a) (walkT Ts k V b)
theorem finT_walk {Ts : List (List (Tr Plf))} {k : Nat} {V : Val} : ∀ t : Tr Plf, finT Ts k V t = walkT Ts k V t
  | .leaf l => rfl
  | .split e a b => by
    rw [finT_split, finT_walk a, finT_walk b, walkT]
    cases evalB V e <;> rfl
theorem g_walk {Ts : List (List (Tr Plf))} (h : tabsLt 0 Ts = true) {k p : Nat} {T : List (Tr Plf)} {t : Tr Plf} {xs : List D} (hk : Ts[k]? = some T) (hp : T[p]? = some t) :
    gAll Ts k (.row (.int (p : Nat) :: xs)) = walkT Ts k (atV Ts xs) t := (g_eq h hk hp).trans (finT_walk t)
theorem cg {Ts : List (List (Tr Plf))} {k : Nat} {V : Val} {e : SB} {a b : Tr Plf} {c : Bool} {x y : D} (h : evalB V e = c) (ha : walkT Ts k V a = x) (hb : walkT Ts k V b = y) : walkT Ts k V (.split e a b) = cond c x y := by
  rw [walkT, h, ha, hb]
end
theorem lE {V : Val} {a b : SE} {x y : Int} (h : (evalD V a).toInt = x) (h' : (evalD V b).toInt = y) : evalB V (.lss a b) = decide (x < y) := by rw [← h, ← h']; rfl
theorem qE {V : Val} {a b : SE} {x y : Int} (h : (evalD V a).toInt = x) (h' : (evalD V b).toInt = y) : evalB V (.eql a b) = decide (x = y) := by rw [← h, ← h']; rfl
theorem aE {V : Val} {a b : SE} {x y : Bool} (h : evalB V a = x) (h' : evalB V b = y) : evalB V (.and a b) = (x && y) := by rw [← h, ← h']; rfl
theorem nE {V : Val} {a : SE} {x : Bool} (h : evalB V a = x) : evalB V (.neg a) = (!x) := by rw [← h]; rfl
end Go.AE
namespace Go.AE
/-! reading what was written -/
/-- every row has n cells -/
def Wd (a : D) (n : Nat) : Prop := ∀ r ∈ a.rows, ∃ cs, r = .row cs ∧ cs.length = n
theorem len_upd {a x : D} {i : Int} {j : Nat} : len (upd a i j x) = len a := by
  show (a.rows.modify _ _).length = _
  simp [len]
theorem len_ad {a r : D} : len (ad a r) = len a + 1 := by
  show (a.rows ++ [r]).length = _
  simp [len]
theorem len_rp {n : Int} {r : D} : len (rp n r) = n.toNat := by
  show (List.replicate _ _).length = _
  simp
theorem len_nilD : len nilD = 0 := rfl
theorem len_emptyD : len emptyD = 0 := rfl
theorem len_ct {a b : D} : len (ct a b) = len a + len b := by
  show (a.rows ++ b.rows).length = _
  simp [len]
theorem len_ni {a : D} {b : Bool} : len (ni a b) = len a := rfl
theorem len_sb {a : D} {lo hi : Int} (h : lo.toNat ≤ hi.toNat) (h' : hi.toNat ≤ len a) : len (sb a lo hi) = hi.toNat - lo.toNat := by
  show ((a.rows.drop _).take _).length = _
  have : hi.toNat ≤ a.rows.length := h'
  simp
  omega
theorem sl_row0 {x : D} {l : List D} : sl (.row (x :: l)) 0 = x := rfl
theorem sl_rowS {x : D} {l : List D} {n : Nat} : sl (.row (x :: l)) (n + 1) = sl (.row l) n := rfl
theorem toInt_int {n : Int} : (D.int n).toInt = n := rfl
theorem toBool_bool {b : Bool} : (D.bool b).toBool = b := rfl
theorem wd_nilD {n : Nat} : Wd nilD n := fun r hr => (by cases hr)
theorem wd_emptyD {n : Nat} : Wd emptyD n := fun r hr => (by cases hr)
theorem wd_ad {a : D} {cs : List D} {n : Nat} (h : Wd a n) (hc : cs.length = n) : Wd (ad a (.row cs)) n := by
  intro r hr
  have hr : r ∈ a.rows ++ [.row cs] := hr
  rcases List.mem_append.1 hr with q | q
  · exact h r q
  · exact ⟨cs, List.mem_singleton.1 q, hc⟩
theorem wd_rp {m : Int} {cs : List D} {n : Nat} (hc : cs.length = n) : Wd (rp m (.row cs)) n := fun r hr => ⟨cs, List.eq_of_mem_replicate hr, hc⟩
theorem wd_upd {a x : D} {i : Int} {j n : Nat} (h : Wd a n) : Wd (upd a i j x) n := by
  intro r hr
  have hr' : r ∈ a.rows.modify i.toNat fun r => .row (r.cells.set j x) := hr
  obtain ⟨k, hk, e⟩ := List.getElem_of_mem hr'
  rw [List.getElem_modify] at e
  have hk' : k < a.rows.length := by simpa using hk
  obtain ⟨cs, hc, hn⟩ := h _ (List.getElem_mem hk')
  split at e
  · rw [hc] at e
    exact ⟨_, e.symm, by simp [D.cells, hn]⟩
  · exact ⟨cs, by rw [← e]; exact hc, hn⟩
theorem wd_ni {a : D} {b : Bool} {n : Nat} (h : Wd a n) : Wd (ni a b) n := h
theorem wd_ct {a b : D} {n : Nat} (h : Wd a n) (h' : Wd b n) : Wd (ct a b) n := fun r hr => (List.mem_append.1 hr).elim (h r) (h' r)
theorem cl_upd {a x : D} {i k : Int} {j j' n : Nat} (h : Wd a n) (hj : j < n) (hi : 0 ≤ i) (hi' : i < len a) (hk : 0 ≤ k) : cl (upd a i j x) k j' = if k = i ∧ j' = j then x else cl a k j' := by
  have hi2 : i.toNat < a.rows.length := by have : len a = a.rows.length := rfl; omega
  show ((a.rows.modify i.toNat fun r => D.row (r.cells.set j x))[k.toNat]?.getD default).cells.getD j' default = _
  rw [List.getElem?_modify]
  by_cases q : k = i
  · subst q
    obtain ⟨cs, hc, hn⟩ := h _ (List.getElem_mem hi2)
    rw [List.getElem?_eq_getElem hi2]
    show ((if k.toNat = k.toNat then D.row ((a.rows[k.toNat]).cells.set j x) else a.rows[k.toNat]).cells[j']?).getD default = _
    rw [if_pos rfl, hc]
    show ((cs.set j x)[j']?).getD default = _
    rw [List.getElem?_set]
    by_cases q' : j = j'
    · subst q'
      rw [if_pos rfl, if_pos (by omega), if_pos ⟨rfl, rfl⟩]
      rfl
    · rw [if_neg q', if_neg (fun c => q' c.2.symm)]
      show _ = (a.rows[k.toNat]?.getD default).cells.getD j' default
      rw [List.getElem?_eq_getElem hi2, Option.getD_some, hc]
      rfl
  · have q2 : ¬ i.toNat = k.toNat := by omega
    rw [if_neg (fun c => q c.1)]
    simp [q2, cl]
theorem cl_upd_same {a x : D} {i : Int} {j n : Nat} (h : Wd a n) (hj : j < n) (hi : 0 ≤ i) (hi' : i < len a) : cl (upd a i j x) i j = x := by rw [cl_upd h hj hi hi' hi, if_pos ⟨rfl, rfl⟩]
theorem cl_upd_ne {a x : D} {i k : Int} {j j' n : Nat} (h : Wd a n) (hj : j < n) (hi : 0 ≤ i) (hi' : i < len a) (hk : 0 ≤ k) (hn : k ≠ i) : cl (upd a i j x) k j' = cl a k j' := by rw [cl_upd h hj hi hi' hk, if_neg (fun c => hn c.1)]
theorem cl_ad {a r : D} {k : Int} {j : Nat} (hk : 0 ≤ k) : cl (ad a r) k j = if k = len a then sl r j else cl a k j := by
  have hl : len a = a.rows.length := rfl
  show ((a.rows ++ [r])[k.toNat]?.getD default).cells.getD j default = _
  by_cases q : k.toNat < a.rows.length
  · rw [List.getElem?_append_left q, if_neg (by omega)]
    rfl
  · by_cases q' : k = len a
    · subst q'
      rw [if_pos rfl]
      have : ((len a : Int)).toNat = a.rows.length := by omega
      rw [this]
      simp [sl]
    · rw [if_neg q', List.getElem?_eq_none (by simp; omega)]
      show _ = (a.rows[k.toNat]?.getD default).cells.getD j default
      rw [List.getElem?_eq_none (by omega)]
theorem cl_rp {n k : Int} {r : D} {j : Nat} (hk : 0 ≤ k) (hk' : k < n) : cl (rp n r) k j = sl r j := by
  show ((List.replicate n.toNat r)[k.toNat]?.getD default).cells.getD j default = _
  rw [List.getElem?_replicate, if_pos (by omega)]
  rfl
theorem cl_ni {a : D} {b : Bool} {k : Int} {j : Nat} : cl (ni a b) k j = cl a k j := rfl
end Go.AE
namespace Go.AE
/-- a law's arguments -/
theorem law_can {P : Program} {ts : List TypeId} {xs : List D} {ks : List Kd} (h : LawArgs P ts xs) (hk : allKinds (Env.of P) ts = some ks) : ks.length = xs.length ∧ Can ks xs := by
  obtain ⟨ks', cs, M, e, hd, hc, _⟩ := h
  rw [hk] at e
  cases e
  exact ⟨hd.len.2, hc⟩
theorem law_deep {P : Program} {ts : List TypeId} {xs : List D} {ks : List Kd} (h : LawArgs P ts xs) (hk : allKinds (Env.of P) ts = some ks) : ks.length = xs.length ∧ CanL (Env.of P).kinds 9 ks xs := by
  obtain ⟨ks', cs, M, e, hd, _, hc⟩ := h
  rw [hk] at e
  cases e
  exact ⟨hd.len.2, hc⟩
end Go.AE
namespace Go.AE
theorem sl0_ne {x c : Int} {l : List D} (h : x ≠ c) : ¬ (sl (.row (.int x :: l)) 0).toInt = c := h
end Go.AE
namespace Go.AE
theorem CanK.cell {K : TypeId → Option (List Kd)} {m j : Nat} {e : TypeId} {ks : List Kd} {kd : Kd} {d : D} {i : Int} (h : CanK K (m + 1) (.slice e) d) (hk : K e = some ks) (h0 : 0 ≤ i) (hi : i < len d) (hj : ks[j]? = some kd) : CanK K m kd (cl d i j) := by
  obtain ⟨nl, rows, rfl, _, q⟩ := h
  have hi' : i.toNat < rows.length := by have : len (.slc nl rows) = rows.length := rfl; omega
  obtain ⟨cs, e1, _, e3⟩ := q ks hk _ (List.getElem_mem hi')
  show CanK K m kd ((rows[i.toNat]?.getD default).cells.getD j default)
  rw [List.getElem?_eq_getElem hi', Option.getD_some, e1]
  exact e3 j kd hj
theorem CanK.toI {K : TypeId → Option (List Kd)} {m : Nat} {k : IntKind} {d : D} (h : CanK K m (.int k) d) : ∃ n, d = .int n := by cases m <;> exact h
theorem CanK.toB {K : TypeId → Option (List Kd)} {m : Nat} {d : D} (h : CanK K m .bool d) : ∃ b, d = .bool b := by cases m <;> exact h
theorem CanK.toS {K : TypeId → Option (List Kd)} {m : Nat} {d : D} (h : CanK K m .str d) : ∃ s, d = .str s := by cases m <;> exact h
end Go.AE
namespace Go.AE
theorem CanK.wd {K : TypeId → Option (List Kd)} {m : Nat} {e : TypeId} {ks : List Kd} {d : D} (h : CanK K (m + 1) (.slice e) d) (hk : K e = some ks) : Wd d ks.length := by
  obtain ⟨nl, rows, rfl, _, q⟩ := h
  intro r hr
  obtain ⟨cs, e1, e2, _⟩ := q ks hk r hr
  exact ⟨cs, e1, e2⟩
end Go.AE
set_option maxRecDepth 100000
namespace Go.CP
open Go.AE
theorem lt : tabsLt 0 ts = true := by decide
section
variable [While]
/-! 0: phrasebook/phrasebooklaw30.few -/
def f0_0 (v0 : D) : D := gAll ts 0 (.row [.int (0 : Nat), v0])
def f0_1 (v0 v1 : D) : D := gAll ts 0 (.row [.int (1 : Nat), v0, v1])
/-! 1: phrasebook/phrasebooklaw30.known -/
def f1_0 : D := gAll ts 1 (.row [.int (0 : Nat)])
/-! 2: slices.IndexFunc[[]phrasebook/counter.counter,phrasebook/counter.counter] -/
def f2_0 (v0 v1 v2 : D) : D := gAll ts 2 (.row [.int (0 : Nat), v0, v1, v2])
def f2_1 (v0 v1 v2 v3 : D) : D := gAll ts 2 (.row [.int (1 : Nat), v0, v1, v2, v3])
/-! 3: (*phrasebook/counter.Bank).find -/
def f3_0 (v0 v1 v2 v3 : D) : D := gAll ts 3 (.row [.int (0 : Nat), v0, v1, v2, v3])
/-! 4: phrasebook/counter.New -/
def f4_0 (v0 : D) : D := gAll ts 4 (.row [.int (0 : Nat), v0])
def f4_1 (v0 v1 v2 v3 : D) : D := gAll ts 4 (.row [.int (1 : Nat), v0, v1, v2, v3])
/-! 5: phrasebook/phrasebookref30.New -/
def f5_0 (v0 : D) : D := gAll ts 5 (.row [.int (0 : Nat), v0])
def f5_1 (v0 v1 v2 v3 v4 v5 : D) : D := gAll ts 5 (.row [.int (1 : Nat), v0, v1, v2, v3, v4, v5])
def f5_2 (v0 v1 v2 v3 v4 v5 v6 : D) : D := gAll ts 5 (.row [.int (2 : Nat), v0, v1, v2, v3, v4, v5, v6])
/-! 6: phrasebook/phrasebookref30.Find -/
def f6_0 (v0 v1 v2 v3 v4 : D) : D := gAll ts 6 (.row [.int (0 : Nat), v0, v1, v2, v3, v4])
def f6_1 (v0 v1 v2 v3 v4 v5 : D) : D := gAll ts 6 (.row [.int (1 : Nat), v0, v1, v2, v3, v4, v5])
/-! 7: phrasebook/phrasebookref30.Allowed -/
def f7_0 (v0 v1 v2 v3 v4 v5 v6 v7 v8 v9 v10 v11 v12 : D) : D := gAll ts 7 (.row [.int (0 : Nat), v0, v1, v2, v3, v4, v5, v6, v7, v8, v9, v10, v11, v12])
/-! 8: phrasebook/phrasebookref30.Apply -/
def f8_0 (v0 v1 v2 v3 v4 v5 v6 v7 v8 v9 v10 v11 v12 : D) : D := gAll ts 8 (.row [.int (0 : Nat), v0, v1, v2, v3, v4, v5, v6, v7, v8, v9, v10, v11, v12])
/-! 9: (*phrasebook/counter.Bank).Get -/
def f9_0 (v0 v1 v2 v3 : D) : D := gAll ts 9 (.row [.int (0 : Nat), v0, v1, v2, v3])
/-! 10: (*phrasebook/counter.Bank).Allowed -/
def f10_0 (v0 v1 v2 v3 v4 v5 v6 v7 v8 v9 v10 v11 : D) : D := gAll ts 10 (.row [.int (0 : Nat), v0, v1, v2, v3, v4, v5, v6, v7, v8, v9, v10, v11])
/-! 11: (*phrasebook/counter.Bank).Apply -/
def f11_0 (v0 v1 v2 v3 v4 v5 v6 v7 v8 v9 v10 v11 : D) : D := gAll ts 11 (.row [.int (0 : Nat), v0, v1, v2, v3, v4, v5, v6, v7, v8, v9, v10, v11])
/-! 12: (*phrasebook/counter.Bank).Counters$1 -/
def f12_0 (v0 v1 v2 v3 : D) : D := gAll ts 12 (.row [.int (0 : Nat), v0, v1, v2, v3])
def f12_1 (v0 v1 v2 v3 v4 : D) : D := gAll ts 12 (.row [.int (1 : Nat), v0, v1, v2, v3, v4])
/-! 13: (*phrasebook/counter.Bank).All -/
def f13_0 (v0 v1 v2 : D) : D := gAll ts 13 (.row [.int (0 : Nat), v0, v1, v2])
/-! 14: phrasebook/phrasebooklaw30.same -/
def f14_0 (v0 v1 v2 v3 : D) : D := gAll ts 14 (.row [.int (0 : Nat), v0, v1, v2, v3])
def f14_1 (v0 v1 v2 v3 v4 : D) : D := gAll ts 14 (.row [.int (1 : Nat), v0, v1, v2, v3, v4])
/-! 15: phrasebook/phrasebooklaw30.agrees -/
def f15_0 (v0 v1 v2 v3 v4 v5 v6 : D) : D := gAll ts 15 (.row [.int (0 : Nat), v0, v1, v2, v3, v4, v5, v6])
def f15_1 (v0 v1 v2 v3 v4 v5 v6 v7 : D) : D := gAll ts 15 (.row [.int (1 : Nat), v0, v1, v2, v3, v4, v5, v6, v7])
/-! 16: phrasebook/phrasebookref30.Put -/
def f16_0 (v0 v1 v2 v3 v4 : D) : D := gAll ts 16 (.row [.int (0 : Nat), v0, v1, v2, v3, v4])
def f16_1 (v0 v1 v2 v3 v4 v5 : D) : D := gAll ts 16 (.row [.int (1 : Nat), v0, v1, v2, v3, v4, v5])
/-! 17: (*phrasebook/counter.Bank).Put -/
def f17_0 (v0 v1 v2 v3 : D) : D := gAll ts 17 (.row [.int (0 : Nat), v0, v1, v2, v3])
def f17_1 (v0 v1 v2 v3 v4 : D) : D := gAll ts 17 (.row [.int (1 : Nat), v0, v1, v2, v3, v4])
def f17_2 (v0 v1 v2 v3 v4 v5 : D) : D := gAll ts 17 (.row [.int (2 : Nat), v0, v1, v2, v3, v4, v5])
/-! 18: (*phrasebook/counter.Bank).Copy -/
def f18_0 (v0 v1 v2 : D) : D := gAll ts 18 (.row [.int (0 : Nat), v0, v1, v2])
/-! 19: phrasebook/phrasebooklaw30.CounterPlays -/
def f19_0 (v0 v1 : D) : D := gAll ts 19 (.row [.int (0 : Nat), v0, v1])
def f19_1 (v0 v1 v2 v3 v4 v5 v6 v7 : D) : D := gAll ts 19 (.row [.int (1 : Nat), v0, v1, v2, v3, v4, v5, v6, v7])
/-! 0: phrasebook/phrasebooklaw30.few -/
theorem e0_0 (v0 : D) : f0_0 v0 =
  f0_1 v0 (.int 0) :=
  (g_walk lt (T := t0) (t := t0p0) rfl rfl).trans rfl
theorem e0_1 (v0 : D) (v1 : Int) : f0_1 v0 (.int v1) =
  cond (decide (v1 < (len v0 : Int))) (
   cond (decide (v1 < 7)) (
    cond (decide (v1 < 0)) (
     .row []) (
     cond (decide (60 < (slen (cl v0 v1 0) : Int))) (
      .row [.int 1, (.bool false)]) (
      f0_1 v0 (.int (IntKind.wrap .i64 (v1 + 1)))))) (
    .row [.int 1, (.bool (!decide (6 < (len v0 : Int))))])) (
   .row [.int 1, (.bool (!decide (6 < (len v0 : Int))))]) :=
  (g_walk lt (T := t0) (t := t0p1) rfl rfl).trans (cg (lE rfl rfl) (cg (lE rfl rfl) (cg (lE rfl rfl) rfl (cg (lE rfl rfl) rfl rfl)) rfl) rfl)
/-! 1: phrasebook/phrasebooklaw30.known -/
theorem e1_0 : f1_0 =
  .row [.int 1] :=
  (g_walk lt (T := t1) (t := t1p0) rfl rfl).trans rfl
/-! 2: slices.IndexFunc[[]phrasebook/counter.counter,phrasebook/counter.counter] -/
theorem e2_0 (v0 : D) (v1 : Bool) (v2 : D) : f2_0 v0 (.bool v1) v2 =
  f2_1 v0 (.bool v1) (.int 0) v2 :=
  (g_walk lt (T := t2) (t := t2p0) rfl rfl).trans rfl
theorem e2_1 (v0 : D) (v1 : Bool) (v2 : Int) (v3 : D) : f2_1 v0 (.bool v1) (.int v2) v3 =
  cond (decide (v2 < (len v0 : Int))) (
   cond (decide (v2 < 0)) (
    .row []) (
    cond (D.strEq (cl v0 v2 0) v3) (
     .row [.int 1, (.int v2)]) (
     f2_1 v0 (.bool v1) (.int (IntKind.wrap .i64 (v2 + 1))) v3))) (
   .row [.int 1, (.int (-1))]) :=
  (g_walk lt (T := t2) (t := t2p1) rfl rfl).trans (cg (lE rfl rfl) (cg (lE rfl rfl) rfl (cg rfl rfl rfl)) rfl)
/-! 3: (*phrasebook/counter.Bank).find -/
theorem e3_0 (v0 : Bool) (v1 : D) (v2 : Bool) (v3 : D) : f3_0 (.bool v0) v1 (.bool v2) v3 =
  cond (decide ((sl (f2_0 v1 (.bool v2) v3) 0).toInt = 1)) (
   .row [.int 1, (sl (f2_0 v1 (.bool v2) v3) 1)]) (
   .row []) :=
  (g_walk lt (T := t3) (t := t3p0) rfl rfl).trans (cg (qE rfl rfl) rfl rfl)
/-! 4: phrasebook/counter.New -/
theorem e4_0 (v0 : D) : f4_0 v0 =
  cond (decide (4 < (len v0 : Int))) (
   .row [.int 1]) (
   f4_1 v0 (.int 0) nilD (.bool true)) :=
  (g_walk lt (T := t4) (t := t4p0) rfl rfl).trans (cg (lE rfl rfl) rfl rfl)
theorem e4_1 (v0 : D) (v1 : Int) (v2 : D) (v3 : Bool) : f4_1 v0 (.int v1) v2 (.bool v3) =
  cond (decide (v1 < (len v0 : Int))) (
   cond (decide (v1 < 0)) (
    .row []) (
    cond (eqC (cl v0 v1 0) 0 0) (
     .row [.int 1]) (
     cond (decide ((cl v0 v1 1).toInt < 1)) (
      .row [.int 1]) (
      cond (decide (1000 < (cl v0 v1 1).toInt)) (
       .row [.int 1]) (
       cond (decide ((sl (f3_0 (.bool true) v2 (.bool v3) (cl v0 v1 0)) 0).toInt = 1)) (
        cond (decide ((sl (f3_0 (.bool true) v2 (.bool v3) (cl v0 v1 0)) 1).toInt < 0)) (
         cond (decide ((len v2 : Int) < 1048576)) (
          f4_1 v0 (.int (IntKind.wrap .i64 (v1 + 1))) (ad v2 (.row [(cl v0 v1 0), (cl v0 v1 1), (.int 0)])) (.bool false)) (
          .row [])) (
         .row [.int 1])) (
        .row [])))))) (
   .row [.int 2, v2, (.bool v3)]) :=
  (g_walk lt (T := t4) (t := t4p1) rfl rfl).trans (cg (lE rfl rfl) (cg (lE rfl rfl) rfl (cg rfl rfl (cg (lE rfl rfl) rfl (cg (lE rfl rfl) rfl (cg (qE rfl rfl) (cg (lE rfl rfl) (cg (lE rfl rfl) rfl rfl) rfl) rfl))))) rfl)
/-! 5: phrasebook/phrasebookref30.New -/
theorem e5_0 (v0 : D) : f5_0 v0 =
  cond (decide (4 < (len v0 : Int))) (
   .row [.int 1, nilD, (.bool true), nilD, (.bool true), (.int 2)]) (
   f5_1 v0 (.int 0) nilD (.bool true) nilD (.bool true)) :=
  (g_walk lt (T := t5) (t := t5p0) rfl rfl).trans (cg (lE rfl rfl) rfl rfl)
theorem e5_1 (v0 : D) (v1 : Int) (v2 : D) (v3 : Bool) (v4 : D) (v5 : Bool) : f5_1 v0 (.int v1) v2 (.bool v3) v4 (.bool v5) =
  cond (decide (v1 < (len v0 : Int))) (
   cond (decide (v1 < 0)) (
    .row []) (
    cond (eqC (cl v0 v1 0) 0 0) (
     .row [.int 1, nilD, (.bool true), nilD, (.bool true), (.int 2)]) (
     cond (decide ((cl v0 v1 1).toInt < 1)) (
      .row [.int 1, nilD, (.bool true), nilD, (.bool true), (.int 2)]) (
      cond (decide (1000 < (cl v0 v1 1).toInt)) (
       .row [.int 1, nilD, (.bool true), nilD, (.bool true), (.int 2)]) (
       f5_2 v0 (.int v1) (.int 0) v2 (.bool v3) v4 (.bool v5)))))) (
   .row [.int 1, v2, (.bool v3), v4, (.bool v5), (.int 0)]) :=
  (g_walk lt (T := t5) (t := t5p1) rfl rfl).trans (cg (lE rfl rfl) (cg (lE rfl rfl) rfl (cg rfl rfl (cg (lE rfl rfl) rfl (cg (lE rfl rfl) rfl rfl)))) rfl)
theorem e5_2 (v0 : D) (v1 : Int) (v2 : Int) (v3 : D) (v4 : Bool) (v5 : D) (v6 : Bool) : f5_2 v0 (.int v1) (.int v2) v3 (.bool v4) v5 (.bool v6) =
  cond (decide (v2 < v1)) (
   cond (decide (v2 < 0)) (
    .row []) (
    cond (decide (v2 < (len v0 : Int))) (
     cond (decide (v1 < 0)) (
      .row []) (
      cond (decide (v1 < (len v0 : Int))) (
       cond (D.strEq (cl v0 v2 0) (cl v0 v1 0)) (
        .row [.int 1, nilD, (.bool true), nilD, (.bool true), (.int 2)]) (
        f5_2 v0 (.int v1) (.int (IntKind.wrap .i64 (v2 + 1))) v3 (.bool v4) v5 (.bool v6))) (
       .row []))) (
     .row []))) (
   cond (decide (v1 < 0)) (
    .row []) (
    cond (decide (v1 < (len v0 : Int))) (
     cond (decide ((len v3 : Int) < 1048576)) (
      cond (decide ((len v5 : Int) < 1048576)) (
       f5_1 v0 (.int (IntKind.wrap .i64 (v1 + 1))) (ad v3 (.row [(cl v0 v1 0), (cl v0 v1 1)])) (.bool false) (ad v5 (.row [(.int 0)])) (.bool false)) (
       .row [])) (
      .row [])) (
     .row []))) :=
  (g_walk lt (T := t5) (t := t5p2) rfl rfl).trans (cg (lE rfl rfl) (cg (lE rfl rfl) rfl (cg (lE rfl rfl) (cg (lE rfl rfl) rfl (cg (lE rfl rfl) (cg rfl rfl rfl) rfl)) rfl)) (cg (lE rfl rfl) rfl (cg (lE rfl rfl) (cg (lE rfl rfl) (cg (lE rfl rfl) rfl rfl) rfl) rfl)))
/-! 6: phrasebook/phrasebookref30.Find -/
theorem e6_0 (v0 : D) (v1 : Bool) (v2 : D) (v3 : Bool) (v4 : D) : f6_0 v0 (.bool v1) v2 (.bool v3) v4 =
  f6_1 v4 (.int 0) v0 v2 (.bool v1) (.bool v3) :=
  (g_walk lt (T := t6) (t := t6p0) rfl rfl).trans rfl
theorem e6_1 (v0 : D) (v1 : Int) (v2 : D) (v3 : D) (v4 : Bool) (v5 : Bool) : f6_1 v0 (.int v1) v2 v3 (.bool v4) (.bool v5) =
  cond (decide (v1 < (len v2 : Int))) (
   cond (decide (v1 < 0)) (
    .row []) (
    cond (D.strEq (cl v2 v1 0) v0) (
     .row [.int 1, (.int v1)]) (
     f6_1 v0 (.int (IntKind.wrap .i64 (v1 + 1))) v2 v3 (.bool v4) (.bool v5)))) (
   .row [.int 1, (.int (-1))]) :=
  (g_walk lt (T := t6) (t := t6p1) rfl rfl).trans (cg (lE rfl rfl) (cg (lE rfl rfl) rfl (cg rfl rfl rfl)) rfl)
/-! 7: phrasebook/phrasebookref30.Allowed -/
theorem e7_0 (v0 : D) (v1 : Bool) (v2 : D) (v3 : Bool) (v4 : D) (v5 : D) (v6 : Int) (v7 : D) (v8 : D) (v9 : D) (v10 : Int) (v11 : Int) (v12 : Int) : f7_0 v0 (.bool v1) v2 (.bool v3) v4 v5 (.int v6) v7 v8 v9 (.int v10) (.int v11) (.int v12) =
  cond (eqC v9 0 0) (
   .row [.int 1, (.bool true), (.int 0)]) (
   cond (decide ((sl (f6_0 v0 (.bool v1) v2 (.bool v3) v9) 0).toInt = 1)) (
    cond (decide ((sl (f6_0 v0 (.bool v1) v2 (.bool v3) v9) 1).toInt < 0)) (
     .row [.int 1, (.bool false), (.int 9)]) (
     cond (decide ((sl (f6_0 v0 (.bool v1) v2 (.bool v3) v9) 1).toInt < (len v0 : Int))) (
      cond (decide ((sl (f6_0 v0 (.bool v1) v2 (.bool v3) v9) 1).toInt < (len v2 : Int))) (
       cond (decide ((cl v2 (sl (f6_0 v0 (.bool v1) v2 (.bool v3) v9) 1).toInt 0).toInt < v10)) (
        .row [.int 1, (.bool false), (.int 0)]) (
        cond (decide (v11 < (cl v2 (sl (f6_0 v0 (.bool v1) v2 (.bool v3) v9) 1).toInt 0).toInt)) (
         .row [.int 1, (.bool false), (.int 0)]) (
         cond (decide (v12 < (-1000))) (
          .row [.int 1, (.bool false), (.int 0)]) (
          cond (decide (1000 < v12)) (
           .row [.int 1, (.bool false), (.int 0)]) (
           cond (decide ((IntKind.wrap .i64 ((cl v2 (sl (f6_0 v0 (.bool v1) v2 (.bool v3) v9) 1).toInt 0).toInt + v12)) < 0)) (
            .row [.int 1, (.bool false), (.int 0)]) (
            cond (decide ((cl v0 (sl (f6_0 v0 (.bool v1) v2 (.bool v3) v9) 1).toInt 1).toInt < (IntKind.wrap .i64 ((cl v2 (sl (f6_0 v0 (.bool v1) v2 (.bool v3) v9) 1).toInt 0).toInt + v12)))) (
             .row [.int 1, (.bool false), (.int 0)]) (
             .row [.int 1, (.bool true), (.int 0)]))))))) (
       .row [])) (
      .row []))) (
    .row [])) :=
  (g_walk lt (T := t7) (t := t7p0) rfl rfl).trans (cg rfl rfl (cg (qE rfl rfl) (cg (lE rfl rfl) rfl (cg (lE rfl rfl) (cg (lE rfl rfl) (cg (lE rfl rfl) rfl (cg (lE rfl rfl) rfl (cg (lE rfl rfl) rfl (cg (lE rfl rfl) rfl (cg (lE rfl rfl) rfl (cg (lE rfl rfl) rfl rfl)))))) rfl) rfl)) rfl))
/-! 8: phrasebook/phrasebookref30.Apply -/
theorem e8_0 (v0 : D) (v1 : Bool) (v2 : D) (v3 : Bool) (v4 : D) (v5 : D) (v6 : Int) (v7 : D) (v8 : D) (v9 : D) (v10 : Int) (v11 : Int) (v12 : Int) : f8_0 v0 (.bool v1) v2 (.bool v3) v4 v5 (.int v6) v7 v8 v9 (.int v10) (.int v11) (.int v12) =
  cond (decide ((sl (f7_0 v0 (.bool v1) v2 (.bool v3) v4 v5 (.int v6) v7 v8 v9 (.int v10) (.int v11) (.int v12)) 0).toInt = 1)) (
   cond (decide ((sl (f7_0 v0 (.bool v1) v2 (.bool v3) v4 v5 (.int v6) v7 v8 v9 (.int v10) (.int v11) (.int v12)) 2).toInt = 0)) (
    cond ((sl (f7_0 v0 (.bool v1) v2 (.bool v3) v4 v5 (.int v6) v7 v8 v9 (.int v10) (.int v11) (.int v12)) 1).toBool) (
     cond (eqC v9 0 0) (
      .row [.int 1, v0, (.bool v1), v2, (.bool v3), (.int 0)]) (
      cond (decide ((sl (f6_0 v0 (.bool v1) v2 (.bool v3) v9) 0).toInt = 1)) (
       cond (decide ((len v2 : Int) < 1048576)) (
        cond (decide ((sl (f6_0 v0 (.bool v1) v2 (.bool v3) v9) 1).toInt < 0)) (
         .row []) (
         cond (decide ((sl (f6_0 v0 (.bool v1) v2 (.bool v3) v9) 1).toInt < (len (ct emptyD v2) : Int))) (
          .row [.int 2, v0, (.bool v1), (upd (ct emptyD v2) (sl (f6_0 v0 (.bool v1) v2 (.bool v3) v9) 1).toInt 0 (.int (IntKind.wrap .i64 ((cl (ct emptyD v2) (sl (f6_0 v0 (.bool v1) v2 (.bool v3) v9) 1).toInt 0).toInt + v12)))), (.bool false)]) (
          .row []))) (
        .row [])) (
       .row []))) (
     .row [.int 1, v0, (.bool v1), v2, (.bool v3), (.int 8)])) (
    .row [.int 1, v0, (.bool v1), v2, (.bool v3), (sl (f7_0 v0 (.bool v1) v2 (.bool v3) v4 v5 (.int v6) v7 v8 v9 (.int v10) (.int v11) (.int v12)) 2)])) (
   .row []) :=
  (g_walk lt (T := t8) (t := t8p0) rfl rfl).trans (cg (qE rfl rfl) (cg (qE rfl rfl) (cg rfl (cg rfl rfl (cg (qE rfl rfl) (cg (lE rfl rfl) (cg (lE rfl rfl) rfl (cg (lE rfl rfl) rfl rfl)) rfl) rfl)) rfl) rfl) rfl)
/-! 9: (*phrasebook/counter.Bank).Get -/
theorem e9_0 (v0 : Bool) (v1 : D) (v2 : Bool) (v3 : D) : f9_0 (.bool v0) v1 (.bool v2) v3 =
  cond (v0) (
   cond (decide ((sl (f3_0 (.bool v0) v1 (.bool v2) v3) 0).toInt = 1)) (
    cond (decide ((sl (f3_0 (.bool v0) v1 (.bool v2) v3) 1).toInt < 0)) (
     .row [.int 1, (.int 0), (.int 9)]) (
     cond (decide ((sl (f3_0 (.bool v0) v1 (.bool v2) v3) 1).toInt < (len v1 : Int))) (
      .row [.int 1, (cl v1 (sl (f3_0 (.bool v0) v1 (.bool v2) v3) 1).toInt 2), (.int 0)]) (
      .row []))) (
    .row [])) (
   .row [.int 1, (.int 0), (.int 1)]) :=
  (g_walk lt (T := t9) (t := t9p0) rfl rfl).trans (cg rfl (cg (qE rfl rfl) (cg (lE rfl rfl) rfl (cg (lE rfl rfl) rfl rfl)) rfl) rfl)
/-! 10: (*phrasebook/counter.Bank).Allowed -/
theorem e10_0 (v0 : Bool) (v1 : D) (v2 : Bool) (v3 : D) (v4 : D) (v5 : Int) (v6 : D) (v7 : D) (v8 : D) (v9 : Int) (v10 : Int) (v11 : Int) : f10_0 (.bool v0) v1 (.bool v2) v3 v4 (.int v5) v6 v7 v8 (.int v9) (.int v10) (.int v11) =
  cond (v0) (
   cond (eqC v8 0 0) (
    .row [.int 1, (.bool true), (.int 0)]) (
    cond (decide ((sl (f9_0 (.bool v0) v1 (.bool v2) v8) 0).toInt = 1)) (
     cond (decide ((sl (f9_0 (.bool v0) v1 (.bool v2) v8) 2).toInt = 0)) (
      cond (decide ((sl (f3_0 (.bool true) v1 (.bool v2) v8) 0).toInt = 1)) (
       cond (decide ((sl (f3_0 (.bool true) v1 (.bool v2) v8) 1).toInt < 0)) (
        .row []) (
        cond (decide ((sl (f3_0 (.bool true) v1 (.bool v2) v8) 1).toInt < (len v1 : Int))) (
         cond (decide ((sl (f9_0 (.bool v0) v1 (.bool v2) v8) 1).toInt < v9)) (
          .row [.int 1, (.bool false), (.int 0)]) (
          cond (decide (v10 < (sl (f9_0 (.bool v0) v1 (.bool v2) v8) 1).toInt)) (
           .row [.int 1, (.bool false), (.int 0)]) (
           cond (decide (v11 < (IntKind.wrap .i64 (0 - (sl (f9_0 (.bool v0) v1 (.bool v2) v8) 1).toInt)))) (
            .row [.int 1, (.bool false), (.int 0)]) (
            .row [.int 1, (.bool (!decide ((IntKind.wrap .i64 ((cl v1 (sl (f3_0 (.bool true) v1 (.bool v2) v8) 1).toInt 1).toInt - (sl (f9_0 (.bool v0) v1 (.bool v2) v8) 1).toInt)) < v11))), (.int 0)])))) (
         .row []))) (
       .row [])) (
      .row [.int 1, (.bool false), (sl (f9_0 (.bool v0) v1 (.bool v2) v8) 2)])) (
     .row []))) (
   .row [.int 1, (.bool false), (.int 1)]) :=
  (g_walk lt (T := t10) (t := t10p0) rfl rfl).trans (cg rfl (cg rfl rfl (cg (qE rfl rfl) (cg (qE rfl rfl) (cg (qE rfl rfl) (cg (lE rfl rfl) rfl (cg (lE rfl rfl) (cg (lE rfl rfl) rfl (cg (lE rfl rfl) rfl (cg (lE rfl rfl) rfl rfl))) rfl)) rfl) rfl) rfl)) rfl)
/-! 11: (*phrasebook/counter.Bank).Apply -/
theorem e11_0 (v0 : Bool) (v1 : D) (v2 : Bool) (v3 : D) (v4 : D) (v5 : Int) (v6 : D) (v7 : D) (v8 : D) (v9 : Int) (v10 : Int) (v11 : Int) : f11_0 (.bool v0) v1 (.bool v2) v3 v4 (.int v5) v6 v7 v8 (.int v9) (.int v10) (.int v11) =
  cond (decide ((sl (f10_0 (.bool v0) v1 (.bool v2) v3 v4 (.int v5) v6 v7 v8 (.int v9) (.int v10) (.int v11)) 0).toInt = 1)) (
   cond (decide ((sl (f10_0 (.bool v0) v1 (.bool v2) v3 v4 (.int v5) v6 v7 v8 (.int v9) (.int v10) (.int v11)) 2).toInt = 0)) (
    cond ((sl (f10_0 (.bool v0) v1 (.bool v2) v3 v4 (.int v5) v6 v7 v8 (.int v9) (.int v10) (.int v11)) 1).toBool) (
     cond (eqC v8 0 0) (
      .row [.int 1, (.int 0), v1]) (
      cond (decide ((sl (f3_0 (.bool v0) v1 (.bool v2) v8) 0).toInt = 1)) (
       cond (decide ((sl (f3_0 (.bool v0) v1 (.bool v2) v8) 1).toInt < 0)) (
        .row []) (
        cond (decide ((sl (f3_0 (.bool v0) v1 (.bool v2) v8) 1).toInt < (len v1 : Int))) (
         .row [.int 1, (.int 0), (upd v1 (sl (f3_0 (.bool v0) v1 (.bool v2) v8) 1).toInt 2 (.int (IntKind.wrap .i64 ((cl v1 (sl (f3_0 (.bool v0) v1 (.bool v2) v8) 1).toInt 2).toInt + v11))))]) (
         .row []))) (
       .row []))) (
     .row [.int 1, (.int 8), v1])) (
    .row [.int 1, (sl (f10_0 (.bool v0) v1 (.bool v2) v3 v4 (.int v5) v6 v7 v8 (.int v9) (.int v10) (.int v11)) 2), v1])) (
   .row []) :=
  (g_walk lt (T := t11) (t := t11p0) rfl rfl).trans (cg (qE rfl rfl) (cg (qE rfl rfl) (cg rfl (cg rfl rfl (cg (qE rfl rfl) (cg (lE rfl rfl) rfl (cg (lE rfl rfl) rfl rfl)) rfl)) rfl) rfl) rfl)
/-! 12: (*phrasebook/counter.Bank).Counters$1 -/
theorem e12_0 (v0 : D) (v1 : Bool) (v2 : D) (v3 : Bool) : f12_0 v0 (.bool v1) v2 (.bool v3) =
  f12_1 v2 (.bool v3) (.int 0) v0 (.bool v1) :=
  (g_walk lt (T := t12) (t := t12p0) rfl rfl).trans rfl
theorem e12_1 (v0 : D) (v1 : Bool) (v2 : Int) (v3 : D) (v4 : Bool) : f12_1 v0 (.bool v1) (.int v2) v3 (.bool v4) =
  cond (decide (v2 < (len v0 : Int))) (
   cond (decide (v2 < 0)) (
    .row []) (
    cond (decide ((len v3 : Int) < 1048576)) (
     f12_1 v0 (.bool v1) (.int (IntKind.wrap .i64 (v2 + 1))) (ad v3 (.row [(cl v0 v2 2)])) (.bool false)) (
     .row []))) (
   .row [.int 1, v3, (.bool v4)]) :=
  (g_walk lt (T := t12) (t := t12p1) rfl rfl).trans (cg (lE rfl rfl) (cg (lE rfl rfl) rfl (cg (lE rfl rfl) rfl rfl)) rfl)
/-! 13: (*phrasebook/counter.Bank).All -/
theorem e13_0 (v0 : Bool) (v1 : D) (v2 : Bool) : f13_0 (.bool v0) v1 (.bool v2) =
  cond (v0) (
   cond (v2) (
    cond (decide ((sl (f12_0 nilD (.bool true) nilD (.bool true)) 0).toInt = 1)) (
     .row [.int 1, (sl (f12_0 nilD (.bool true) nilD (.bool true)) 1), (sl (f12_0 nilD (.bool true) nilD (.bool true)) 2)]) (
     .row [])) (
    cond (decide ((len v1 : Int) < 1048576)) (
     cond (decide ((sl (f12_0 nilD (.bool true) (ct emptyD v1) (.bool (false && decide ((len v1 : Int) = 0)))) 0).toInt = 1)) (
      .row [.int 1, (sl (f12_0 nilD (.bool true) (ct emptyD v1) (.bool false)) 1), (sl (f12_0 nilD (.bool true) (ct emptyD v1) (.bool false)) 2)]) (
      .row [])) (
     .row []))) (
   cond (decide ((sl (f12_0 nilD (.bool true) nilD (.bool true)) 0).toInt = 1)) (
    .row [.int 1, (sl (f12_0 nilD (.bool true) nilD (.bool true)) 1), (sl (f12_0 nilD (.bool true) nilD (.bool true)) 2)]) (
    .row [])) :=
  (g_walk lt (T := t13) (t := t13p0) rfl rfl).trans (cg rfl (cg rfl (cg (qE rfl rfl) rfl rfl) (cg (lE rfl rfl) (cg (qE rfl rfl) rfl rfl) rfl)) (cg (qE rfl rfl) rfl rfl))
/-! 14: phrasebook/phrasebooklaw30.same -/
theorem e14_0 (v0 : D) (v1 : Bool) (v2 : D) (v3 : Bool) : f14_0 v0 (.bool v1) v2 (.bool v3) =
  cond (decide ((len v0 : Int) = (len v2 : Int))) (
   f14_1 v0 (.bool v1) v2 (.bool v3) (.int 0)) (
   .row [.int 1, (.bool false)]) :=
  (g_walk lt (T := t14) (t := t14p0) rfl rfl).trans (cg (qE rfl rfl) rfl rfl)
theorem e14_1 (v0 : D) (v1 : Bool) (v2 : D) (v3 : Bool) (v4 : Int) : f14_1 v0 (.bool v1) v2 (.bool v3) (.int v4) =
  cond (decide (v4 < (len v0 : Int))) (
   cond (decide (v4 < 0)) (
    .row []) (
    cond (decide (v4 < (len v2 : Int))) (
     cond (decide ((cl v0 v4 0).toInt = (cl v2 v4 0).toInt)) (
      f14_1 v0 (.bool v1) v2 (.bool v3) (.int (IntKind.wrap .i64 (v4 + 1)))) (
      .row [.int 1, (.bool false)])) (
     .row []))) (
   .row [.int 1, (.bool true)]) :=
  (g_walk lt (T := t14) (t := t14p1) rfl rfl).trans (cg (lE rfl rfl) (cg (lE rfl rfl) rfl (cg (lE rfl rfl) (cg (qE rfl rfl) rfl rfl) rfl)) rfl)
/-! 15: phrasebook/phrasebooklaw30.agrees -/
theorem e15_0 (v0 : Bool) (v1 : D) (v2 : Bool) (v3 : D) (v4 : Bool) (v5 : D) (v6 : Bool) : f15_0 (.bool v0) v1 (.bool v2) v3 (.bool v4) v5 (.bool v6) =
  f15_1 (.int 0) (.bool v0) v1 (.bool v2) v3 v5 (.bool v4) (.bool v6) :=
  (g_walk lt (T := t15) (t := t15p0) rfl rfl).trans rfl
theorem e15_1 (v0 : Int) (v1 : Bool) (v2 : D) (v3 : Bool) (v4 : D) (v5 : D) (v6 : Bool) (v7 : Bool) : f15_1 (.int v0) (.bool v1) v2 (.bool v3) v4 v5 (.bool v6) (.bool v7) =
  cond (decide (v0 < (len v4 : Int))) (
   cond (decide (v0 < 0)) (
    .row []) (
    cond (decide ((sl (f9_0 (.bool v1) v2 (.bool v3) (cl v4 v0 0)) 0).toInt = 1)) (
     cond (decide (v0 < (len v5 : Int))) (
      cond (decide ((sl (f9_0 (.bool v1) v2 (.bool v3) (cl v4 v0 0)) 1).toInt = (cl v5 v0 0).toInt)) (
       cond (decide ((sl (f9_0 (.bool v1) v2 (.bool v3) (cl v4 v0 0)) 2).toInt = 0)) (
        f15_1 (.int (IntKind.wrap .i64 (v0 + 1))) (.bool v1) v2 (.bool v3) v4 v5 (.bool v6) (.bool v7)) (
        .row [.int 1, (.bool false)])) (
       .row [.int 1, (.bool false)])) (
      .row [])) (
     .row []))) (
   cond (decide ((sl (f13_0 (.bool v1) v2 (.bool v3)) 0).toInt = 1)) (
    cond (decide ((sl (f14_0 (sl (f13_0 (.bool v1) v2 (.bool v3)) 1) (sl (f13_0 (.bool v1) v2 (.bool v3)) 2) v5 (.bool v7)) 0).toInt = 1)) (
     .row [.int 1, (sl (f14_0 (sl (f13_0 (.bool v1) v2 (.bool v3)) 1) (sl (f13_0 (.bool v1) v2 (.bool v3)) 2) v5 (.bool v7)) 1)]) (
     .row [])) (
    .row [])) :=
  (g_walk lt (T := t15) (t := t15p1) rfl rfl).trans (cg (lE rfl rfl) (cg (lE rfl rfl) rfl (cg (qE rfl rfl) (cg (lE rfl rfl) (cg (qE rfl rfl) (cg (qE rfl rfl) rfl rfl) rfl) rfl) rfl)) (cg (qE rfl rfl) (cg (qE rfl rfl) rfl rfl) rfl))
/-! 16: phrasebook/phrasebookref30.Put -/
theorem e16_0 (v0 : D) (v1 : Bool) (v2 : D) (v3 : Bool) (v4 : D) : f16_0 v0 (.bool v1) v2 (.bool v3) v4 =
  cond (decide ((len v4 : Int) = (len v2 : Int))) (
   f16_1 v4 (.int 0) v0 v2 (.bool v1) (.bool v3)) (
   .row [.int 1, v0, (.bool v1), v2, (.bool v3), (.int 2)]) :=
  (g_walk lt (T := t16) (t := t16p0) rfl rfl).trans (cg (qE rfl rfl) rfl rfl)
theorem e16_1 (v0 : D) (v1 : Int) (v2 : D) (v3 : D) (v4 : Bool) (v5 : Bool) : f16_1 v0 (.int v1) v2 v3 (.bool v4) (.bool v5) =
  cond (decide (v1 < (len v0 : Int))) (
   cond (decide (v1 < 0)) (
    .row []) (
    cond (decide ((cl v0 v1 0).toInt < 0)) (
     .row [.int 1, v2, (.bool v4), v3, (.bool v5), (.int 3)]) (
     cond (decide (v1 < (len v2 : Int))) (
      cond (decide ((cl v2 v1 1).toInt < (cl v0 v1 0).toInt)) (
       .row [.int 1, v2, (.bool v4), v3, (.bool v5), (.int 3)]) (
       f16_1 v0 (.int (IntKind.wrap .i64 (v1 + 1))) v2 v3 (.bool v4) (.bool v5))) (
      .row [])))) (
   cond (decide ((len v0 : Int) < 1048576)) (
    .row [.int 2, v2, (.bool v4), (ct emptyD v0), (.bool false)]) (
    .row [])) :=
  (g_walk lt (T := t16) (t := t16p1) rfl rfl).trans (cg (lE rfl rfl) (cg (lE rfl rfl) rfl (cg (lE rfl rfl) rfl (cg (lE rfl rfl) (cg (lE rfl rfl) rfl rfl) rfl))) (cg (lE rfl rfl) rfl rfl))
/-! 17: (*phrasebook/counter.Bank).Put -/
theorem e17_0 (v0 : Bool) (v1 : D) (v2 : Bool) (v3 : D) : f17_0 (.bool v0) v1 (.bool v2) v3 =
  cond (v0) (
   cond (decide ((len v3 : Int) = (len v1 : Int))) (
    f17_1 v3 (.int 0) (.bool v0) v1 (.bool v2)) (
    .row [.int 1, (.int 2), v1])) (
   .row [.int 1, (.int 1), v1]) :=
  (g_walk lt (T := t17) (t := t17p0) rfl rfl).trans (cg rfl (cg (qE rfl rfl) rfl rfl) rfl)
theorem e17_1 (v0 : D) (v1 : Int) (v2 : Bool) (v3 : D) (v4 : Bool) : f17_1 v0 (.int v1) (.bool v2) v3 (.bool v4) =
  cond (decide (v1 < (len v0 : Int))) (
   cond (decide (v1 < 0)) (
    .row []) (
    cond (decide ((cl v0 v1 0).toInt < 0)) (
     .row [.int 1, (.int 3), v3]) (
     cond (decide (v1 < (len v3 : Int))) (
      cond (decide ((cl v3 v1 1).toInt < (cl v0 v1 0).toInt)) (
       .row [.int 1, (.int 3), v3]) (
       f17_1 v0 (.int (IntKind.wrap .i64 (v1 + 1))) (.bool v2) v3 (.bool v4))) (
      .row [])))) (
   f17_2 v0 (.int (len v0 : Int)) (.int 0) (.bool v2) v3 (.bool v4)) :=
  (g_walk lt (T := t17) (t := t17p1) rfl rfl).trans (cg (lE rfl rfl) (cg (lE rfl rfl) rfl (cg (lE rfl rfl) rfl (cg (lE rfl rfl) (cg (lE rfl rfl) rfl rfl) rfl))) rfl)
theorem e17_2 (v0 : D) (v1 : Int) (v2 : Int) (v3 : Bool) (v4 : D) (v5 : Bool) : f17_2 v0 (.int v1) (.int v2) (.bool v3) v4 (.bool v5) =
  cond (decide (v2 < v1)) (
   cond (decide (v2 < 0)) (
    .row []) (
    cond (decide (v2 < (len v0 : Int))) (
     cond (decide (v2 < (len v4 : Int))) (
      f17_2 v0 (.int v1) (.int (IntKind.wrap .i64 (v2 + 1))) (.bool v3) (upd v4 v2 2 (cl v0 v2 0)) (.bool v5)) (
      .row [])) (
     .row []))) (
   .row [.int 1, (.int 0), v4]) :=
  (g_walk lt (T := t17) (t := t17p2) rfl rfl).trans (cg (lE rfl rfl) (cg (lE rfl rfl) rfl (cg (lE rfl rfl) (cg (lE rfl rfl) rfl rfl) rfl)) rfl)
/-! 18: (*phrasebook/counter.Bank).Copy -/
theorem e18_0 (v0 : Bool) (v1 : D) (v2 : Bool) : f18_0 (.bool v0) v1 (.bool v2) =
  cond (v0) (
   cond (v2) (
    .row [.int 1, nilD, (.bool true)]) (
    cond (decide ((len v1 : Int) < 1048576)) (
     .row [.int 1, (ct emptyD v1), (.bool false)]) (
     .row []))) (
   .row [.int 2]) :=
  (g_walk lt (T := t18) (t := t18p0) rfl rfl).trans (cg rfl (cg rfl rfl (cg (lE rfl rfl) rfl rfl)) rfl)
/-! 19: phrasebook/phrasebooklaw30.CounterPlays -/
theorem e19_0 (v0 : D) (v1 : D) : f19_0 v0 v1 =
  cond (decide ((sl (f0_0 v0) 0).toInt = 1)) (
   cond ((sl (f0_0 v0) 1).toBool) (
    cond (decide (60 < (len v1 : Int))) (
     cond (decide ((sl (f1_0) 0).toInt = 1)) (
      .row [.int 1, (.bool true)]) (
      .row [])) (
     cond (decide ((sl (f4_0 v0) 0).toInt = 1)) (
      cond (decide ((sl (f5_0 v0) 0).toInt = 1)) (
       cond (decide (2 = (sl (f5_0 v0) 5).toInt)) (
        cond (decide ((sl (f5_0 v0) 5).toInt = 0)) (
         .row [.int 1, (.bool false)]) (
         cond (decide ((sl (f1_0) 0).toInt = 1)) (
          .row [.int 1, (.bool true)]) (
          .row []))) (
        .row [.int 1, (.bool false)])) (
       .row [])) (
      cond (decide ((sl (f4_0 v0) 0).toInt = 2)) (
       cond (decide ((sl (f5_0 v0) 0).toInt = 1)) (
        cond (decide (0 = (sl (f5_0 v0) 5).toInt)) (
         cond (decide ((sl (f5_0 v0) 5).toInt = 0)) (
          f19_1 v1 (.int 0) (sl (f4_0 v0) 1) (sl (f4_0 v0) 2) (sl (f5_0 v0) 1) (sl (f5_0 v0) 2) (sl (f5_0 v0) 3) (sl (f5_0 v0) 4)) (
          .row [.int 1, (.bool false)])) (
         .row [.int 1, (.bool false)])) (
        .row [])) (
       .row [])))) (
    cond (decide ((sl (f1_0) 0).toInt = 1)) (
     .row [.int 1, (.bool true)]) (
     .row []))) (
   .row []) :=
  (g_walk lt (T := t19) (t := t19p0) rfl rfl).trans (cg (qE rfl rfl) (cg rfl (cg (lE rfl rfl) (cg (qE rfl rfl) rfl rfl) (cg (qE rfl rfl) (cg (qE rfl rfl) (cg (qE rfl rfl) (cg (qE rfl rfl) rfl (cg (qE rfl rfl) rfl rfl)) rfl) rfl) (cg (qE rfl rfl) (cg (qE rfl rfl) (cg (qE rfl rfl) (cg (qE rfl rfl) rfl rfl) rfl) rfl) rfl))) (cg (qE rfl rfl) rfl rfl)) rfl)
theorem e19_1 (v0 : D) (v1 : Int) (v2 : D) (v3 : Bool) (v4 : D) (v5 : Bool) (v6 : D) (v7 : Bool) : f19_1 v0 (.int v1) v2 (.bool v3) v4 (.bool v5) v6 (.bool v7) =
  cond (decide (v1 < (len v0 : Int))) (
   cond (decide (v1 < 0)) (
    .row []) (
    cond (decide (10 < (len (cl v0 v1 10) : Int))) (
     cond (decide ((sl (f1_0) 0).toInt = 1)) (
      .row [.int 1, (.bool true)]) (
      .row [])) (
     cond (decide (60 < (slen (cl v0 v1 6) : Int))) (
      cond (decide ((sl (f1_0) 0).toInt = 1)) (
       .row [.int 1, (.bool true)]) (
       .row [])) (
      cond (decide ((cl v0 v1 0).toInt = 0)) (
       cond (decide ((sl (f8_0 v4 (.bool v5) v6 (.bool v7) (cl v0 v1 1) (cl v0 v1 2) (cl v0 v1 3) (cl v0 v1 4) (cl v0 v1 5) (cl v0 v1 6) (cl v0 v1 7) (cl v0 v1 8) (cl v0 v1 9)) 0).toInt = 1)) (
        cond (decide ((sl (f11_0 (.bool true) v2 (.bool v3) (cl v0 v1 1) (cl v0 v1 2) (cl v0 v1 3) (cl v0 v1 4) (cl v0 v1 5) (cl v0 v1 6) (cl v0 v1 7) (cl v0 v1 8) (cl v0 v1 9)) 0).toInt = 1)) (
         cond (decide ((sl (f11_0 (.bool true) v2 (.bool v3) (cl v0 v1 1) (cl v0 v1 2) (cl v0 v1 3) (cl v0 v1 4) (cl v0 v1 5) (cl v0 v1 6) (cl v0 v1 7) (cl v0 v1 8) (cl v0 v1 9)) 1).toInt = (sl (f8_0 v4 (.bool v5) v6 (.bool v7) (cl v0 v1 1) (cl v0 v1 2) (cl v0 v1 3) (cl v0 v1 4) (cl v0 v1 5) (cl v0 v1 6) (cl v0 v1 7) (cl v0 v1 8) (cl v0 v1 9)) 5).toInt)) (
          cond (decide ((len (sl (f11_0 (.bool true) v2 (.bool v3) (cl v0 v1 1) (cl v0 v1 2) (cl v0 v1 3) (cl v0 v1 4) (cl v0 v1 5) (cl v0 v1 6) (cl v0 v1 7) (cl v0 v1 8) (cl v0 v1 9)) 2) : Int) = (len v2 : Int))) (
           cond (decide ((sl (f15_0 (.bool true) (sl (f11_0 (.bool true) v2 (.bool v3) (cl v0 v1 1) (cl v0 v1 2) (cl v0 v1 3) (cl v0 v1 4) (cl v0 v1 5) (cl v0 v1 6) (cl v0 v1 7) (cl v0 v1 8) (cl v0 v1 9)) 2) (.bool v3) (sl (f8_0 v4 (.bool v5) v6 (.bool v7) (cl v0 v1 1) (cl v0 v1 2) (cl v0 v1 3) (cl v0 v1 4) (cl v0 v1 5) (cl v0 v1 6) (cl v0 v1 7) (cl v0 v1 8) (cl v0 v1 9)) 1) (sl (f8_0 v4 (.bool v5) v6 (.bool v7) (cl v0 v1 1) (cl v0 v1 2) (cl v0 v1 3) (cl v0 v1 4) (cl v0 v1 5) (cl v0 v1 6) (cl v0 v1 7) (cl v0 v1 8) (cl v0 v1 9)) 2) (sl (f8_0 v4 (.bool v5) v6 (.bool v7) (cl v0 v1 1) (cl v0 v1 2) (cl v0 v1 3) (cl v0 v1 4) (cl v0 v1 5) (cl v0 v1 6) (cl v0 v1 7) (cl v0 v1 8) (cl v0 v1 9)) 3) (sl (f8_0 v4 (.bool v5) v6 (.bool v7) (cl v0 v1 1) (cl v0 v1 2) (cl v0 v1 3) (cl v0 v1 4) (cl v0 v1 5) (cl v0 v1 6) (cl v0 v1 7) (cl v0 v1 8) (cl v0 v1 9)) 4)) 0).toInt = 1)) (
            cond ((sl (f15_0 (.bool true) (sl (f11_0 (.bool true) v2 (.bool v3) (cl v0 v1 1) (cl v0 v1 2) (cl v0 v1 3) (cl v0 v1 4) (cl v0 v1 5) (cl v0 v1 6) (cl v0 v1 7) (cl v0 v1 8) (cl v0 v1 9)) 2) (.bool v3) (sl (f8_0 v4 (.bool v5) v6 (.bool v7) (cl v0 v1 1) (cl v0 v1 2) (cl v0 v1 3) (cl v0 v1 4) (cl v0 v1 5) (cl v0 v1 6) (cl v0 v1 7) (cl v0 v1 8) (cl v0 v1 9)) 1) (sl (f8_0 v4 (.bool v5) v6 (.bool v7) (cl v0 v1 1) (cl v0 v1 2) (cl v0 v1 3) (cl v0 v1 4) (cl v0 v1 5) (cl v0 v1 6) (cl v0 v1 7) (cl v0 v1 8) (cl v0 v1 9)) 2) (sl (f8_0 v4 (.bool v5) v6 (.bool v7) (cl v0 v1 1) (cl v0 v1 2) (cl v0 v1 3) (cl v0 v1 4) (cl v0 v1 5) (cl v0 v1 6) (cl v0 v1 7) (cl v0 v1 8) (cl v0 v1 9)) 3) (sl (f8_0 v4 (.bool v5) v6 (.bool v7) (cl v0 v1 1) (cl v0 v1 2) (cl v0 v1 3) (cl v0 v1 4) (cl v0 v1 5) (cl v0 v1 6) (cl v0 v1 7) (cl v0 v1 8) (cl v0 v1 9)) 4)) 1).toBool) (
             f19_1 v0 (.int (IntKind.wrap .i64 (v1 + 1))) (sl (f11_0 (.bool true) v2 (.bool v3) (cl v0 v1 1) (cl v0 v1 2) (cl v0 v1 3) (cl v0 v1 4) (cl v0 v1 5) (cl v0 v1 6) (cl v0 v1 7) (cl v0 v1 8) (cl v0 v1 9)) 2) (.bool v3) (sl (f8_0 v4 (.bool v5) v6 (.bool v7) (cl v0 v1 1) (cl v0 v1 2) (cl v0 v1 3) (cl v0 v1 4) (cl v0 v1 5) (cl v0 v1 6) (cl v0 v1 7) (cl v0 v1 8) (cl v0 v1 9)) 1) (sl (f8_0 v4 (.bool v5) v6 (.bool v7) (cl v0 v1 1) (cl v0 v1 2) (cl v0 v1 3) (cl v0 v1 4) (cl v0 v1 5) (cl v0 v1 6) (cl v0 v1 7) (cl v0 v1 8) (cl v0 v1 9)) 2) (sl (f8_0 v4 (.bool v5) v6 (.bool v7) (cl v0 v1 1) (cl v0 v1 2) (cl v0 v1 3) (cl v0 v1 4) (cl v0 v1 5) (cl v0 v1 6) (cl v0 v1 7) (cl v0 v1 8) (cl v0 v1 9)) 3) (sl (f8_0 v4 (.bool v5) v6 (.bool v7) (cl v0 v1 1) (cl v0 v1 2) (cl v0 v1 3) (cl v0 v1 4) (cl v0 v1 5) (cl v0 v1 6) (cl v0 v1 7) (cl v0 v1 8) (cl v0 v1 9)) 4)) (
             .row [.int 1, (.bool false)])) (
            .row [])) (
           .row [])) (
          .row [.int 1, (.bool false)])) (
         .row [])) (
        cond (decide ((sl (f8_0 v4 (.bool v5) v6 (.bool v7) (cl v0 v1 1) (cl v0 v1 2) (cl v0 v1 3) (cl v0 v1 4) (cl v0 v1 5) (cl v0 v1 6) (cl v0 v1 7) (cl v0 v1 8) (cl v0 v1 9)) 0).toInt = 2)) (
         cond (decide ((sl (f11_0 (.bool true) v2 (.bool v3) (cl v0 v1 1) (cl v0 v1 2) (cl v0 v1 3) (cl v0 v1 4) (cl v0 v1 5) (cl v0 v1 6) (cl v0 v1 7) (cl v0 v1 8) (cl v0 v1 9)) 0).toInt = 1)) (
          cond (decide ((sl (f11_0 (.bool true) v2 (.bool v3) (cl v0 v1 1) (cl v0 v1 2) (cl v0 v1 3) (cl v0 v1 4) (cl v0 v1 5) (cl v0 v1 6) (cl v0 v1 7) (cl v0 v1 8) (cl v0 v1 9)) 1).toInt = 0)) (
           cond (decide ((len (sl (f11_0 (.bool true) v2 (.bool v3) (cl v0 v1 1) (cl v0 v1 2) (cl v0 v1 3) (cl v0 v1 4) (cl v0 v1 5) (cl v0 v1 6) (cl v0 v1 7) (cl v0 v1 8) (cl v0 v1 9)) 2) : Int) = (len v2 : Int))) (
            cond (decide ((sl (f15_0 (.bool true) (sl (f11_0 (.bool true) v2 (.bool v3) (cl v0 v1 1) (cl v0 v1 2) (cl v0 v1 3) (cl v0 v1 4) (cl v0 v1 5) (cl v0 v1 6) (cl v0 v1 7) (cl v0 v1 8) (cl v0 v1 9)) 2) (.bool v3) (sl (f8_0 v4 (.bool v5) v6 (.bool v7) (cl v0 v1 1) (cl v0 v1 2) (cl v0 v1 3) (cl v0 v1 4) (cl v0 v1 5) (cl v0 v1 6) (cl v0 v1 7) (cl v0 v1 8) (cl v0 v1 9)) 1) (sl (f8_0 v4 (.bool v5) v6 (.bool v7) (cl v0 v1 1) (cl v0 v1 2) (cl v0 v1 3) (cl v0 v1 4) (cl v0 v1 5) (cl v0 v1 6) (cl v0 v1 7) (cl v0 v1 8) (cl v0 v1 9)) 2) (sl (f8_0 v4 (.bool v5) v6 (.bool v7) (cl v0 v1 1) (cl v0 v1 2) (cl v0 v1 3) (cl v0 v1 4) (cl v0 v1 5) (cl v0 v1 6) (cl v0 v1 7) (cl v0 v1 8) (cl v0 v1 9)) 3) (sl (f8_0 v4 (.bool v5) v6 (.bool v7) (cl v0 v1 1) (cl v0 v1 2) (cl v0 v1 3) (cl v0 v1 4) (cl v0 v1 5) (cl v0 v1 6) (cl v0 v1 7) (cl v0 v1 8) (cl v0 v1 9)) 4)) 0).toInt = 1)) (
             cond ((sl (f15_0 (.bool true) (sl (f11_0 (.bool true) v2 (.bool v3) (cl v0 v1 1) (cl v0 v1 2) (cl v0 v1 3) (cl v0 v1 4) (cl v0 v1 5) (cl v0 v1 6) (cl v0 v1 7) (cl v0 v1 8) (cl v0 v1 9)) 2) (.bool v3) (sl (f8_0 v4 (.bool v5) v6 (.bool v7) (cl v0 v1 1) (cl v0 v1 2) (cl v0 v1 3) (cl v0 v1 4) (cl v0 v1 5) (cl v0 v1 6) (cl v0 v1 7) (cl v0 v1 8) (cl v0 v1 9)) 1) (sl (f8_0 v4 (.bool v5) v6 (.bool v7) (cl v0 v1 1) (cl v0 v1 2) (cl v0 v1 3) (cl v0 v1 4) (cl v0 v1 5) (cl v0 v1 6) (cl v0 v1 7) (cl v0 v1 8) (cl v0 v1 9)) 2) (sl (f8_0 v4 (.bool v5) v6 (.bool v7) (cl v0 v1 1) (cl v0 v1 2) (cl v0 v1 3) (cl v0 v1 4) (cl v0 v1 5) (cl v0 v1 6) (cl v0 v1 7) (cl v0 v1 8) (cl v0 v1 9)) 3) (sl (f8_0 v4 (.bool v5) v6 (.bool v7) (cl v0 v1 1) (cl v0 v1 2) (cl v0 v1 3) (cl v0 v1 4) (cl v0 v1 5) (cl v0 v1 6) (cl v0 v1 7) (cl v0 v1 8) (cl v0 v1 9)) 4)) 1).toBool) (
              f19_1 v0 (.int (IntKind.wrap .i64 (v1 + 1))) (sl (f11_0 (.bool true) v2 (.bool v3) (cl v0 v1 1) (cl v0 v1 2) (cl v0 v1 3) (cl v0 v1 4) (cl v0 v1 5) (cl v0 v1 6) (cl v0 v1 7) (cl v0 v1 8) (cl v0 v1 9)) 2) (.bool v3) (sl (f8_0 v4 (.bool v5) v6 (.bool v7) (cl v0 v1 1) (cl v0 v1 2) (cl v0 v1 3) (cl v0 v1 4) (cl v0 v1 5) (cl v0 v1 6) (cl v0 v1 7) (cl v0 v1 8) (cl v0 v1 9)) 1) (sl (f8_0 v4 (.bool v5) v6 (.bool v7) (cl v0 v1 1) (cl v0 v1 2) (cl v0 v1 3) (cl v0 v1 4) (cl v0 v1 5) (cl v0 v1 6) (cl v0 v1 7) (cl v0 v1 8) (cl v0 v1 9)) 2) (sl (f8_0 v4 (.bool v5) v6 (.bool v7) (cl v0 v1 1) (cl v0 v1 2) (cl v0 v1 3) (cl v0 v1 4) (cl v0 v1 5) (cl v0 v1 6) (cl v0 v1 7) (cl v0 v1 8) (cl v0 v1 9)) 3) (sl (f8_0 v4 (.bool v5) v6 (.bool v7) (cl v0 v1 1) (cl v0 v1 2) (cl v0 v1 3) (cl v0 v1 4) (cl v0 v1 5) (cl v0 v1 6) (cl v0 v1 7) (cl v0 v1 8) (cl v0 v1 9)) 4)) (
              .row [.int 1, (.bool false)])) (
             .row [])) (
            .row [])) (
           .row [.int 1, (.bool false)])) (
          .row [])) (
         .row []))) (
       cond (decide ((cl v0 v1 0).toInt = 1)) (
        cond (decide ((sl (f8_0 v4 (.bool v5) v6 (.bool v7) (cl v0 v1 1) (cl v0 v1 2) (cl v0 v1 3) (cl v0 v1 4) (cl v0 v1 5) (cl v0 v1 6) (cl v0 v1 7) (cl v0 v1 8) (cl v0 v1 9)) 0).toInt = 1)) (
         cond (decide ((sl (f11_0 (.bool true) v2 (.bool v3) (cl v0 v1 1) (cl v0 v1 2) (cl v0 v1 3) (cl v0 v1 4) (cl v0 v1 5) (cl v0 v1 6) (cl v0 v1 7) (cl v0 v1 8) (cl v0 v1 9)) 0).toInt = 1)) (
          cond (decide ((sl (f11_0 (.bool true) v2 (.bool v3) (cl v0 v1 1) (cl v0 v1 2) (cl v0 v1 3) (cl v0 v1 4) (cl v0 v1 5) (cl v0 v1 6) (cl v0 v1 7) (cl v0 v1 8) (cl v0 v1 9)) 1).toInt = (sl (f8_0 v4 (.bool v5) v6 (.bool v7) (cl v0 v1 1) (cl v0 v1 2) (cl v0 v1 3) (cl v0 v1 4) (cl v0 v1 5) (cl v0 v1 6) (cl v0 v1 7) (cl v0 v1 8) (cl v0 v1 9)) 5).toInt)) (
           cond (decide ((len (sl (f11_0 (.bool true) v2 (.bool v3) (cl v0 v1 1) (cl v0 v1 2) (cl v0 v1 3) (cl v0 v1 4) (cl v0 v1 5) (cl v0 v1 6) (cl v0 v1 7) (cl v0 v1 8) (cl v0 v1 9)) 2) : Int) = (len v2 : Int))) (
            cond (decide ((sl (f15_0 (.bool true) (sl (f11_0 (.bool true) v2 (.bool v3) (cl v0 v1 1) (cl v0 v1 2) (cl v0 v1 3) (cl v0 v1 4) (cl v0 v1 5) (cl v0 v1 6) (cl v0 v1 7) (cl v0 v1 8) (cl v0 v1 9)) 2) (.bool v3) (sl (f8_0 v4 (.bool v5) v6 (.bool v7) (cl v0 v1 1) (cl v0 v1 2) (cl v0 v1 3) (cl v0 v1 4) (cl v0 v1 5) (cl v0 v1 6) (cl v0 v1 7) (cl v0 v1 8) (cl v0 v1 9)) 1) (sl (f8_0 v4 (.bool v5) v6 (.bool v7) (cl v0 v1 1) (cl v0 v1 2) (cl v0 v1 3) (cl v0 v1 4) (cl v0 v1 5) (cl v0 v1 6) (cl v0 v1 7) (cl v0 v1 8) (cl v0 v1 9)) 2) (sl (f8_0 v4 (.bool v5) v6 (.bool v7) (cl v0 v1 1) (cl v0 v1 2) (cl v0 v1 3) (cl v0 v1 4) (cl v0 v1 5) (cl v0 v1 6) (cl v0 v1 7) (cl v0 v1 8) (cl v0 v1 9)) 3) (sl (f8_0 v4 (.bool v5) v6 (.bool v7) (cl v0 v1 1) (cl v0 v1 2) (cl v0 v1 3) (cl v0 v1 4) (cl v0 v1 5) (cl v0 v1 6) (cl v0 v1 7) (cl v0 v1 8) (cl v0 v1 9)) 4)) 0).toInt = 1)) (
             cond ((sl (f15_0 (.bool true) (sl (f11_0 (.bool true) v2 (.bool v3) (cl v0 v1 1) (cl v0 v1 2) (cl v0 v1 3) (cl v0 v1 4) (cl v0 v1 5) (cl v0 v1 6) (cl v0 v1 7) (cl v0 v1 8) (cl v0 v1 9)) 2) (.bool v3) (sl (f8_0 v4 (.bool v5) v6 (.bool v7) (cl v0 v1 1) (cl v0 v1 2) (cl v0 v1 3) (cl v0 v1 4) (cl v0 v1 5) (cl v0 v1 6) (cl v0 v1 7) (cl v0 v1 8) (cl v0 v1 9)) 1) (sl (f8_0 v4 (.bool v5) v6 (.bool v7) (cl v0 v1 1) (cl v0 v1 2) (cl v0 v1 3) (cl v0 v1 4) (cl v0 v1 5) (cl v0 v1 6) (cl v0 v1 7) (cl v0 v1 8) (cl v0 v1 9)) 2) (sl (f8_0 v4 (.bool v5) v6 (.bool v7) (cl v0 v1 1) (cl v0 v1 2) (cl v0 v1 3) (cl v0 v1 4) (cl v0 v1 5) (cl v0 v1 6) (cl v0 v1 7) (cl v0 v1 8) (cl v0 v1 9)) 3) (sl (f8_0 v4 (.bool v5) v6 (.bool v7) (cl v0 v1 1) (cl v0 v1 2) (cl v0 v1 3) (cl v0 v1 4) (cl v0 v1 5) (cl v0 v1 6) (cl v0 v1 7) (cl v0 v1 8) (cl v0 v1 9)) 4)) 1).toBool) (
              f19_1 v0 (.int (IntKind.wrap .i64 (v1 + 1))) (sl (f11_0 (.bool true) v2 (.bool v3) (cl v0 v1 1) (cl v0 v1 2) (cl v0 v1 3) (cl v0 v1 4) (cl v0 v1 5) (cl v0 v1 6) (cl v0 v1 7) (cl v0 v1 8) (cl v0 v1 9)) 2) (.bool v3) (sl (f8_0 v4 (.bool v5) v6 (.bool v7) (cl v0 v1 1) (cl v0 v1 2) (cl v0 v1 3) (cl v0 v1 4) (cl v0 v1 5) (cl v0 v1 6) (cl v0 v1 7) (cl v0 v1 8) (cl v0 v1 9)) 1) (sl (f8_0 v4 (.bool v5) v6 (.bool v7) (cl v0 v1 1) (cl v0 v1 2) (cl v0 v1 3) (cl v0 v1 4) (cl v0 v1 5) (cl v0 v1 6) (cl v0 v1 7) (cl v0 v1 8) (cl v0 v1 9)) 2) (sl (f8_0 v4 (.bool v5) v6 (.bool v7) (cl v0 v1 1) (cl v0 v1 2) (cl v0 v1 3) (cl v0 v1 4) (cl v0 v1 5) (cl v0 v1 6) (cl v0 v1 7) (cl v0 v1 8) (cl v0 v1 9)) 3) (sl (f8_0 v4 (.bool v5) v6 (.bool v7) (cl v0 v1 1) (cl v0 v1 2) (cl v0 v1 3) (cl v0 v1 4) (cl v0 v1 5) (cl v0 v1 6) (cl v0 v1 7) (cl v0 v1 8) (cl v0 v1 9)) 4)) (
              .row [.int 1, (.bool false)])) (
             .row [])) (
            .row [])) (
           .row [.int 1, (.bool false)])) (
          .row [])) (
         cond (decide ((sl (f8_0 v4 (.bool v5) v6 (.bool v7) (cl v0 v1 1) (cl v0 v1 2) (cl v0 v1 3) (cl v0 v1 4) (cl v0 v1 5) (cl v0 v1 6) (cl v0 v1 7) (cl v0 v1 8) (cl v0 v1 9)) 0).toInt = 2)) (
          cond (decide ((sl (f11_0 (.bool true) v2 (.bool v3) (cl v0 v1 1) (cl v0 v1 2) (cl v0 v1 3) (cl v0 v1 4) (cl v0 v1 5) (cl v0 v1 6) (cl v0 v1 7) (cl v0 v1 8) (cl v0 v1 9)) 0).toInt = 1)) (
           cond (decide ((sl (f11_0 (.bool true) v2 (.bool v3) (cl v0 v1 1) (cl v0 v1 2) (cl v0 v1 3) (cl v0 v1 4) (cl v0 v1 5) (cl v0 v1 6) (cl v0 v1 7) (cl v0 v1 8) (cl v0 v1 9)) 1).toInt = 0)) (
            cond (decide ((len (sl (f11_0 (.bool true) v2 (.bool v3) (cl v0 v1 1) (cl v0 v1 2) (cl v0 v1 3) (cl v0 v1 4) (cl v0 v1 5) (cl v0 v1 6) (cl v0 v1 7) (cl v0 v1 8) (cl v0 v1 9)) 2) : Int) = (len v2 : Int))) (
             cond (decide ((sl (f15_0 (.bool true) (sl (f11_0 (.bool true) v2 (.bool v3) (cl v0 v1 1) (cl v0 v1 2) (cl v0 v1 3) (cl v0 v1 4) (cl v0 v1 5) (cl v0 v1 6) (cl v0 v1 7) (cl v0 v1 8) (cl v0 v1 9)) 2) (.bool v3) (sl (f8_0 v4 (.bool v5) v6 (.bool v7) (cl v0 v1 1) (cl v0 v1 2) (cl v0 v1 3) (cl v0 v1 4) (cl v0 v1 5) (cl v0 v1 6) (cl v0 v1 7) (cl v0 v1 8) (cl v0 v1 9)) 1) (sl (f8_0 v4 (.bool v5) v6 (.bool v7) (cl v0 v1 1) (cl v0 v1 2) (cl v0 v1 3) (cl v0 v1 4) (cl v0 v1 5) (cl v0 v1 6) (cl v0 v1 7) (cl v0 v1 8) (cl v0 v1 9)) 2) (sl (f8_0 v4 (.bool v5) v6 (.bool v7) (cl v0 v1 1) (cl v0 v1 2) (cl v0 v1 3) (cl v0 v1 4) (cl v0 v1 5) (cl v0 v1 6) (cl v0 v1 7) (cl v0 v1 8) (cl v0 v1 9)) 3) (sl (f8_0 v4 (.bool v5) v6 (.bool v7) (cl v0 v1 1) (cl v0 v1 2) (cl v0 v1 3) (cl v0 v1 4) (cl v0 v1 5) (cl v0 v1 6) (cl v0 v1 7) (cl v0 v1 8) (cl v0 v1 9)) 4)) 0).toInt = 1)) (
              cond ((sl (f15_0 (.bool true) (sl (f11_0 (.bool true) v2 (.bool v3) (cl v0 v1 1) (cl v0 v1 2) (cl v0 v1 3) (cl v0 v1 4) (cl v0 v1 5) (cl v0 v1 6) (cl v0 v1 7) (cl v0 v1 8) (cl v0 v1 9)) 2) (.bool v3) (sl (f8_0 v4 (.bool v5) v6 (.bool v7) (cl v0 v1 1) (cl v0 v1 2) (cl v0 v1 3) (cl v0 v1 4) (cl v0 v1 5) (cl v0 v1 6) (cl v0 v1 7) (cl v0 v1 8) (cl v0 v1 9)) 1) (sl (f8_0 v4 (.bool v5) v6 (.bool v7) (cl v0 v1 1) (cl v0 v1 2) (cl v0 v1 3) (cl v0 v1 4) (cl v0 v1 5) (cl v0 v1 6) (cl v0 v1 7) (cl v0 v1 8) (cl v0 v1 9)) 2) (sl (f8_0 v4 (.bool v5) v6 (.bool v7) (cl v0 v1 1) (cl v0 v1 2) (cl v0 v1 3) (cl v0 v1 4) (cl v0 v1 5) (cl v0 v1 6) (cl v0 v1 7) (cl v0 v1 8) (cl v0 v1 9)) 3) (sl (f8_0 v4 (.bool v5) v6 (.bool v7) (cl v0 v1 1) (cl v0 v1 2) (cl v0 v1 3) (cl v0 v1 4) (cl v0 v1 5) (cl v0 v1 6) (cl v0 v1 7) (cl v0 v1 8) (cl v0 v1 9)) 4)) 1).toBool) (
               f19_1 v0 (.int (IntKind.wrap .i64 (v1 + 1))) (sl (f11_0 (.bool true) v2 (.bool v3) (cl v0 v1 1) (cl v0 v1 2) (cl v0 v1 3) (cl v0 v1 4) (cl v0 v1 5) (cl v0 v1 6) (cl v0 v1 7) (cl v0 v1 8) (cl v0 v1 9)) 2) (.bool v3) (sl (f8_0 v4 (.bool v5) v6 (.bool v7) (cl v0 v1 1) (cl v0 v1 2) (cl v0 v1 3) (cl v0 v1 4) (cl v0 v1 5) (cl v0 v1 6) (cl v0 v1 7) (cl v0 v1 8) (cl v0 v1 9)) 1) (sl (f8_0 v4 (.bool v5) v6 (.bool v7) (cl v0 v1 1) (cl v0 v1 2) (cl v0 v1 3) (cl v0 v1 4) (cl v0 v1 5) (cl v0 v1 6) (cl v0 v1 7) (cl v0 v1 8) (cl v0 v1 9)) 2) (sl (f8_0 v4 (.bool v5) v6 (.bool v7) (cl v0 v1 1) (cl v0 v1 2) (cl v0 v1 3) (cl v0 v1 4) (cl v0 v1 5) (cl v0 v1 6) (cl v0 v1 7) (cl v0 v1 8) (cl v0 v1 9)) 3) (sl (f8_0 v4 (.bool v5) v6 (.bool v7) (cl v0 v1 1) (cl v0 v1 2) (cl v0 v1 3) (cl v0 v1 4) (cl v0 v1 5) (cl v0 v1 6) (cl v0 v1 7) (cl v0 v1 8) (cl v0 v1 9)) 4)) (
               .row [.int 1, (.bool false)])) (
              .row [])) (
             .row [])) (
            .row [.int 1, (.bool false)])) (
           .row [])) (
          .row []))) (
        cond (decide ((cl v0 v1 0).toInt = 2)) (
         cond (decide ((sl (f8_0 v4 (.bool v5) v6 (.bool v7) (cl v0 v1 1) (cl v0 v1 2) (cl v0 v1 3) (cl v0 v1 4) (cl v0 v1 5) (cl v0 v1 6) (cl v0 v1 7) (cl v0 v1 8) (cl v0 v1 9)) 0).toInt = 1)) (
          cond (decide ((sl (f11_0 (.bool true) v2 (.bool v3) (cl v0 v1 1) (cl v0 v1 2) (cl v0 v1 3) (cl v0 v1 4) (cl v0 v1 5) (cl v0 v1 6) (cl v0 v1 7) (cl v0 v1 8) (cl v0 v1 9)) 0).toInt = 1)) (
           cond (decide ((sl (f11_0 (.bool true) v2 (.bool v3) (cl v0 v1 1) (cl v0 v1 2) (cl v0 v1 3) (cl v0 v1 4) (cl v0 v1 5) (cl v0 v1 6) (cl v0 v1 7) (cl v0 v1 8) (cl v0 v1 9)) 1).toInt = (sl (f8_0 v4 (.bool v5) v6 (.bool v7) (cl v0 v1 1) (cl v0 v1 2) (cl v0 v1 3) (cl v0 v1 4) (cl v0 v1 5) (cl v0 v1 6) (cl v0 v1 7) (cl v0 v1 8) (cl v0 v1 9)) 5).toInt)) (
            cond (decide ((len (sl (f11_0 (.bool true) v2 (.bool v3) (cl v0 v1 1) (cl v0 v1 2) (cl v0 v1 3) (cl v0 v1 4) (cl v0 v1 5) (cl v0 v1 6) (cl v0 v1 7) (cl v0 v1 8) (cl v0 v1 9)) 2) : Int) = (len v2 : Int))) (
             cond (decide ((sl (f15_0 (.bool true) (sl (f11_0 (.bool true) v2 (.bool v3) (cl v0 v1 1) (cl v0 v1 2) (cl v0 v1 3) (cl v0 v1 4) (cl v0 v1 5) (cl v0 v1 6) (cl v0 v1 7) (cl v0 v1 8) (cl v0 v1 9)) 2) (.bool v3) (sl (f8_0 v4 (.bool v5) v6 (.bool v7) (cl v0 v1 1) (cl v0 v1 2) (cl v0 v1 3) (cl v0 v1 4) (cl v0 v1 5) (cl v0 v1 6) (cl v0 v1 7) (cl v0 v1 8) (cl v0 v1 9)) 1) (sl (f8_0 v4 (.bool v5) v6 (.bool v7) (cl v0 v1 1) (cl v0 v1 2) (cl v0 v1 3) (cl v0 v1 4) (cl v0 v1 5) (cl v0 v1 6) (cl v0 v1 7) (cl v0 v1 8) (cl v0 v1 9)) 2) (sl (f8_0 v4 (.bool v5) v6 (.bool v7) (cl v0 v1 1) (cl v0 v1 2) (cl v0 v1 3) (cl v0 v1 4) (cl v0 v1 5) (cl v0 v1 6) (cl v0 v1 7) (cl v0 v1 8) (cl v0 v1 9)) 3) (sl (f8_0 v4 (.bool v5) v6 (.bool v7) (cl v0 v1 1) (cl v0 v1 2) (cl v0 v1 3) (cl v0 v1 4) (cl v0 v1 5) (cl v0 v1 6) (cl v0 v1 7) (cl v0 v1 8) (cl v0 v1 9)) 4)) 0).toInt = 1)) (
              cond ((sl (f15_0 (.bool true) (sl (f11_0 (.bool true) v2 (.bool v3) (cl v0 v1 1) (cl v0 v1 2) (cl v0 v1 3) (cl v0 v1 4) (cl v0 v1 5) (cl v0 v1 6) (cl v0 v1 7) (cl v0 v1 8) (cl v0 v1 9)) 2) (.bool v3) (sl (f8_0 v4 (.bool v5) v6 (.bool v7) (cl v0 v1 1) (cl v0 v1 2) (cl v0 v1 3) (cl v0 v1 4) (cl v0 v1 5) (cl v0 v1 6) (cl v0 v1 7) (cl v0 v1 8) (cl v0 v1 9)) 1) (sl (f8_0 v4 (.bool v5) v6 (.bool v7) (cl v0 v1 1) (cl v0 v1 2) (cl v0 v1 3) (cl v0 v1 4) (cl v0 v1 5) (cl v0 v1 6) (cl v0 v1 7) (cl v0 v1 8) (cl v0 v1 9)) 2) (sl (f8_0 v4 (.bool v5) v6 (.bool v7) (cl v0 v1 1) (cl v0 v1 2) (cl v0 v1 3) (cl v0 v1 4) (cl v0 v1 5) (cl v0 v1 6) (cl v0 v1 7) (cl v0 v1 8) (cl v0 v1 9)) 3) (sl (f8_0 v4 (.bool v5) v6 (.bool v7) (cl v0 v1 1) (cl v0 v1 2) (cl v0 v1 3) (cl v0 v1 4) (cl v0 v1 5) (cl v0 v1 6) (cl v0 v1 7) (cl v0 v1 8) (cl v0 v1 9)) 4)) 1).toBool) (
               f19_1 v0 (.int (IntKind.wrap .i64 (v1 + 1))) (sl (f11_0 (.bool true) v2 (.bool v3) (cl v0 v1 1) (cl v0 v1 2) (cl v0 v1 3) (cl v0 v1 4) (cl v0 v1 5) (cl v0 v1 6) (cl v0 v1 7) (cl v0 v1 8) (cl v0 v1 9)) 2) (.bool v3) (sl (f8_0 v4 (.bool v5) v6 (.bool v7) (cl v0 v1 1) (cl v0 v1 2) (cl v0 v1 3) (cl v0 v1 4) (cl v0 v1 5) (cl v0 v1 6) (cl v0 v1 7) (cl v0 v1 8) (cl v0 v1 9)) 1) (sl (f8_0 v4 (.bool v5) v6 (.bool v7) (cl v0 v1 1) (cl v0 v1 2) (cl v0 v1 3) (cl v0 v1 4) (cl v0 v1 5) (cl v0 v1 6) (cl v0 v1 7) (cl v0 v1 8) (cl v0 v1 9)) 2) (sl (f8_0 v4 (.bool v5) v6 (.bool v7) (cl v0 v1 1) (cl v0 v1 2) (cl v0 v1 3) (cl v0 v1 4) (cl v0 v1 5) (cl v0 v1 6) (cl v0 v1 7) (cl v0 v1 8) (cl v0 v1 9)) 3) (sl (f8_0 v4 (.bool v5) v6 (.bool v7) (cl v0 v1 1) (cl v0 v1 2) (cl v0 v1 3) (cl v0 v1 4) (cl v0 v1 5) (cl v0 v1 6) (cl v0 v1 7) (cl v0 v1 8) (cl v0 v1 9)) 4)) (
               .row [.int 1, (.bool false)])) (
              .row [])) (
             .row [])) (
            .row [.int 1, (.bool false)])) (
           .row [])) (
          cond (decide ((sl (f8_0 v4 (.bool v5) v6 (.bool v7) (cl v0 v1 1) (cl v0 v1 2) (cl v0 v1 3) (cl v0 v1 4) (cl v0 v1 5) (cl v0 v1 6) (cl v0 v1 7) (cl v0 v1 8) (cl v0 v1 9)) 0).toInt = 2)) (
           cond (decide ((sl (f11_0 (.bool true) v2 (.bool v3) (cl v0 v1 1) (cl v0 v1 2) (cl v0 v1 3) (cl v0 v1 4) (cl v0 v1 5) (cl v0 v1 6) (cl v0 v1 7) (cl v0 v1 8) (cl v0 v1 9)) 0).toInt = 1)) (
            cond (decide ((sl (f11_0 (.bool true) v2 (.bool v3) (cl v0 v1 1) (cl v0 v1 2) (cl v0 v1 3) (cl v0 v1 4) (cl v0 v1 5) (cl v0 v1 6) (cl v0 v1 7) (cl v0 v1 8) (cl v0 v1 9)) 1).toInt = 0)) (
             cond (decide ((len (sl (f11_0 (.bool true) v2 (.bool v3) (cl v0 v1 1) (cl v0 v1 2) (cl v0 v1 3) (cl v0 v1 4) (cl v0 v1 5) (cl v0 v1 6) (cl v0 v1 7) (cl v0 v1 8) (cl v0 v1 9)) 2) : Int) = (len v2 : Int))) (
              cond (decide ((sl (f15_0 (.bool true) (sl (f11_0 (.bool true) v2 (.bool v3) (cl v0 v1 1) (cl v0 v1 2) (cl v0 v1 3) (cl v0 v1 4) (cl v0 v1 5) (cl v0 v1 6) (cl v0 v1 7) (cl v0 v1 8) (cl v0 v1 9)) 2) (.bool v3) (sl (f8_0 v4 (.bool v5) v6 (.bool v7) (cl v0 v1 1) (cl v0 v1 2) (cl v0 v1 3) (cl v0 v1 4) (cl v0 v1 5) (cl v0 v1 6) (cl v0 v1 7) (cl v0 v1 8) (cl v0 v1 9)) 1) (sl (f8_0 v4 (.bool v5) v6 (.bool v7) (cl v0 v1 1) (cl v0 v1 2) (cl v0 v1 3) (cl v0 v1 4) (cl v0 v1 5) (cl v0 v1 6) (cl v0 v1 7) (cl v0 v1 8) (cl v0 v1 9)) 2) (sl (f8_0 v4 (.bool v5) v6 (.bool v7) (cl v0 v1 1) (cl v0 v1 2) (cl v0 v1 3) (cl v0 v1 4) (cl v0 v1 5) (cl v0 v1 6) (cl v0 v1 7) (cl v0 v1 8) (cl v0 v1 9)) 3) (sl (f8_0 v4 (.bool v5) v6 (.bool v7) (cl v0 v1 1) (cl v0 v1 2) (cl v0 v1 3) (cl v0 v1 4) (cl v0 v1 5) (cl v0 v1 6) (cl v0 v1 7) (cl v0 v1 8) (cl v0 v1 9)) 4)) 0).toInt = 1)) (
               cond ((sl (f15_0 (.bool true) (sl (f11_0 (.bool true) v2 (.bool v3) (cl v0 v1 1) (cl v0 v1 2) (cl v0 v1 3) (cl v0 v1 4) (cl v0 v1 5) (cl v0 v1 6) (cl v0 v1 7) (cl v0 v1 8) (cl v0 v1 9)) 2) (.bool v3) (sl (f8_0 v4 (.bool v5) v6 (.bool v7) (cl v0 v1 1) (cl v0 v1 2) (cl v0 v1 3) (cl v0 v1 4) (cl v0 v1 5) (cl v0 v1 6) (cl v0 v1 7) (cl v0 v1 8) (cl v0 v1 9)) 1) (sl (f8_0 v4 (.bool v5) v6 (.bool v7) (cl v0 v1 1) (cl v0 v1 2) (cl v0 v1 3) (cl v0 v1 4) (cl v0 v1 5) (cl v0 v1 6) (cl v0 v1 7) (cl v0 v1 8) (cl v0 v1 9)) 2) (sl (f8_0 v4 (.bool v5) v6 (.bool v7) (cl v0 v1 1) (cl v0 v1 2) (cl v0 v1 3) (cl v0 v1 4) (cl v0 v1 5) (cl v0 v1 6) (cl v0 v1 7) (cl v0 v1 8) (cl v0 v1 9)) 3) (sl (f8_0 v4 (.bool v5) v6 (.bool v7) (cl v0 v1 1) (cl v0 v1 2) (cl v0 v1 3) (cl v0 v1 4) (cl v0 v1 5) (cl v0 v1 6) (cl v0 v1 7) (cl v0 v1 8) (cl v0 v1 9)) 4)) 1).toBool) (
                f19_1 v0 (.int (IntKind.wrap .i64 (v1 + 1))) (sl (f11_0 (.bool true) v2 (.bool v3) (cl v0 v1 1) (cl v0 v1 2) (cl v0 v1 3) (cl v0 v1 4) (cl v0 v1 5) (cl v0 v1 6) (cl v0 v1 7) (cl v0 v1 8) (cl v0 v1 9)) 2) (.bool v3) (sl (f8_0 v4 (.bool v5) v6 (.bool v7) (cl v0 v1 1) (cl v0 v1 2) (cl v0 v1 3) (cl v0 v1 4) (cl v0 v1 5) (cl v0 v1 6) (cl v0 v1 7) (cl v0 v1 8) (cl v0 v1 9)) 1) (sl (f8_0 v4 (.bool v5) v6 (.bool v7) (cl v0 v1 1) (cl v0 v1 2) (cl v0 v1 3) (cl v0 v1 4) (cl v0 v1 5) (cl v0 v1 6) (cl v0 v1 7) (cl v0 v1 8) (cl v0 v1 9)) 2) (sl (f8_0 v4 (.bool v5) v6 (.bool v7) (cl v0 v1 1) (cl v0 v1 2) (cl v0 v1 3) (cl v0 v1 4) (cl v0 v1 5) (cl v0 v1 6) (cl v0 v1 7) (cl v0 v1 8) (cl v0 v1 9)) 3) (sl (f8_0 v4 (.bool v5) v6 (.bool v7) (cl v0 v1 1) (cl v0 v1 2) (cl v0 v1 3) (cl v0 v1 4) (cl v0 v1 5) (cl v0 v1 6) (cl v0 v1 7) (cl v0 v1 8) (cl v0 v1 9)) 4)) (
                .row [.int 1, (.bool false)])) (
               .row [])) (
              .row [])) (
             .row [.int 1, (.bool false)])) (
            .row [])) (
           .row []))) (
         cond (decide ((cl v0 v1 0).toInt = 3)) (
          cond (decide ((sl (f16_0 v4 (.bool v5) v6 (.bool v7) (cl v0 v1 10)) 0).toInt = 1)) (
           cond (decide ((sl (f17_0 (.bool true) v2 (.bool v3) (cl v0 v1 10)) 0).toInt = 1)) (
            cond (decide ((sl (f17_0 (.bool true) v2 (.bool v3) (cl v0 v1 10)) 1).toInt = (sl (f16_0 v4 (.bool v5) v6 (.bool v7) (cl v0 v1 10)) 5).toInt)) (
             cond (decide ((len (sl (f17_0 (.bool true) v2 (.bool v3) (cl v0 v1 10)) 2) : Int) = (len v2 : Int))) (
              cond (decide ((sl (f15_0 (.bool true) (sl (f17_0 (.bool true) v2 (.bool v3) (cl v0 v1 10)) 2) (.bool v3) (sl (f16_0 v4 (.bool v5) v6 (.bool v7) (cl v0 v1 10)) 1) (sl (f16_0 v4 (.bool v5) v6 (.bool v7) (cl v0 v1 10)) 2) (sl (f16_0 v4 (.bool v5) v6 (.bool v7) (cl v0 v1 10)) 3) (sl (f16_0 v4 (.bool v5) v6 (.bool v7) (cl v0 v1 10)) 4)) 0).toInt = 1)) (
               cond ((sl (f15_0 (.bool true) (sl (f17_0 (.bool true) v2 (.bool v3) (cl v0 v1 10)) 2) (.bool v3) (sl (f16_0 v4 (.bool v5) v6 (.bool v7) (cl v0 v1 10)) 1) (sl (f16_0 v4 (.bool v5) v6 (.bool v7) (cl v0 v1 10)) 2) (sl (f16_0 v4 (.bool v5) v6 (.bool v7) (cl v0 v1 10)) 3) (sl (f16_0 v4 (.bool v5) v6 (.bool v7) (cl v0 v1 10)) 4)) 1).toBool) (
                f19_1 v0 (.int (IntKind.wrap .i64 (v1 + 1))) (sl (f17_0 (.bool true) v2 (.bool v3) (cl v0 v1 10)) 2) (.bool v3) (sl (f16_0 v4 (.bool v5) v6 (.bool v7) (cl v0 v1 10)) 1) (sl (f16_0 v4 (.bool v5) v6 (.bool v7) (cl v0 v1 10)) 2) (sl (f16_0 v4 (.bool v5) v6 (.bool v7) (cl v0 v1 10)) 3) (sl (f16_0 v4 (.bool v5) v6 (.bool v7) (cl v0 v1 10)) 4)) (
                .row [.int 1, (.bool false)])) (
               .row [])) (
              .row [])) (
             .row [.int 1, (.bool false)])) (
            .row [])) (
           cond (decide ((sl (f16_0 v4 (.bool v5) v6 (.bool v7) (cl v0 v1 10)) 0).toInt = 2)) (
            cond (decide ((sl (f17_0 (.bool true) v2 (.bool v3) (cl v0 v1 10)) 0).toInt = 1)) (
             cond (decide ((sl (f17_0 (.bool true) v2 (.bool v3) (cl v0 v1 10)) 1).toInt = 0)) (
              cond (decide ((len (sl (f17_0 (.bool true) v2 (.bool v3) (cl v0 v1 10)) 2) : Int) = (len v2 : Int))) (
               cond (decide ((sl (f15_0 (.bool true) (sl (f17_0 (.bool true) v2 (.bool v3) (cl v0 v1 10)) 2) (.bool v3) (sl (f16_0 v4 (.bool v5) v6 (.bool v7) (cl v0 v1 10)) 1) (sl (f16_0 v4 (.bool v5) v6 (.bool v7) (cl v0 v1 10)) 2) (sl (f16_0 v4 (.bool v5) v6 (.bool v7) (cl v0 v1 10)) 3) (sl (f16_0 v4 (.bool v5) v6 (.bool v7) (cl v0 v1 10)) 4)) 0).toInt = 1)) (
                cond ((sl (f15_0 (.bool true) (sl (f17_0 (.bool true) v2 (.bool v3) (cl v0 v1 10)) 2) (.bool v3) (sl (f16_0 v4 (.bool v5) v6 (.bool v7) (cl v0 v1 10)) 1) (sl (f16_0 v4 (.bool v5) v6 (.bool v7) (cl v0 v1 10)) 2) (sl (f16_0 v4 (.bool v5) v6 (.bool v7) (cl v0 v1 10)) 3) (sl (f16_0 v4 (.bool v5) v6 (.bool v7) (cl v0 v1 10)) 4)) 1).toBool) (
                 f19_1 v0 (.int (IntKind.wrap .i64 (v1 + 1))) (sl (f17_0 (.bool true) v2 (.bool v3) (cl v0 v1 10)) 2) (.bool v3) (sl (f16_0 v4 (.bool v5) v6 (.bool v7) (cl v0 v1 10)) 1) (sl (f16_0 v4 (.bool v5) v6 (.bool v7) (cl v0 v1 10)) 2) (sl (f16_0 v4 (.bool v5) v6 (.bool v7) (cl v0 v1 10)) 3) (sl (f16_0 v4 (.bool v5) v6 (.bool v7) (cl v0 v1 10)) 4)) (
                 .row [.int 1, (.bool false)])) (
                .row [])) (
               .row [])) (
              .row [.int 1, (.bool false)])) (
             .row [])) (
            .row []))) (
          cond (decide ((cl v0 v1 0).toInt = 4)) (
           cond (decide ((sl (f18_0 (.bool true) v2 (.bool v3)) 0).toInt = 1)) (
            cond (decide ((sl (f11_0 (.bool true) v2 (.bool v3) (cl v0 v1 1) (cl v0 v1 2) (cl v0 v1 3) (cl v0 v1 4) (cl v0 v1 5) (cl v0 v1 6) (cl v0 v1 7) (cl v0 v1 8) (cl v0 v1 9)) 0).toInt = 1)) (
             cond (decide ((sl (f15_0 (.bool true) (sl (f18_0 (.bool true) v2 (.bool v3)) 1) (sl (f18_0 (.bool true) v2 (.bool v3)) 2) v4 (.bool v5) v6 (.bool v7)) 0).toInt = 1)) (
              cond ((sl (f15_0 (.bool true) (sl (f18_0 (.bool true) v2 (.bool v3)) 1) (sl (f18_0 (.bool true) v2 (.bool v3)) 2) v4 (.bool v5) v6 (.bool v7)) 1).toBool) (
               f19_1 v0 (.int (IntKind.wrap .i64 (v1 + 1))) (sl (f18_0 (.bool true) v2 (.bool v3)) 1) (sl (f18_0 (.bool true) v2 (.bool v3)) 2) v4 (.bool v5) v6 (.bool v7)) (
               .row [.int 1, (.bool false)])) (
              .row [])) (
             .row [])) (
            cond (decide ((sl (f18_0 (.bool true) v2 (.bool v3)) 0).toInt = 2)) (
             cond (decide ((sl (f11_0 (.bool true) v2 (.bool v3) (cl v0 v1 1) (cl v0 v1 2) (cl v0 v1 3) (cl v0 v1 4) (cl v0 v1 5) (cl v0 v1 6) (cl v0 v1 7) (cl v0 v1 8) (cl v0 v1 9)) 0).toInt = 1)) (
              .row [.int 1, (.bool false)]) (
              .row [])) (
             .row []))) (
           cond (decide ((sl (f10_0 (.bool true) v2 (.bool v3) (cl v0 v1 1) (cl v0 v1 2) (cl v0 v1 3) (cl v0 v1 4) (cl v0 v1 5) (cl v0 v1 6) (cl v0 v1 7) (cl v0 v1 8) (cl v0 v1 9)) 0).toInt = 1)) (
            cond (decide ((sl (f7_0 v4 (.bool v5) v6 (.bool v7) (cl v0 v1 1) (cl v0 v1 2) (cl v0 v1 3) (cl v0 v1 4) (cl v0 v1 5) (cl v0 v1 6) (cl v0 v1 7) (cl v0 v1 8) (cl v0 v1 9)) 0).toInt = 1)) (
             cond ((sl (f10_0 (.bool true) v2 (.bool v3) (cl v0 v1 1) (cl v0 v1 2) (cl v0 v1 3) (cl v0 v1 4) (cl v0 v1 5) (cl v0 v1 6) (cl v0 v1 7) (cl v0 v1 8) (cl v0 v1 9)) 1).toBool) (
              cond ((sl (f7_0 v4 (.bool v5) v6 (.bool v7) (cl v0 v1 1) (cl v0 v1 2) (cl v0 v1 3) (cl v0 v1 4) (cl v0 v1 5) (cl v0 v1 6) (cl v0 v1 7) (cl v0 v1 8) (cl v0 v1 9)) 1).toBool) (
               cond (decide ((sl (f10_0 (.bool true) v2 (.bool v3) (cl v0 v1 1) (cl v0 v1 2) (cl v0 v1 3) (cl v0 v1 4) (cl v0 v1 5) (cl v0 v1 6) (cl v0 v1 7) (cl v0 v1 8) (cl v0 v1 9)) 2).toInt = (sl (f7_0 v4 (.bool v5) v6 (.bool v7) (cl v0 v1 1) (cl v0 v1 2) (cl v0 v1 3) (cl v0 v1 4) (cl v0 v1 5) (cl v0 v1 6) (cl v0 v1 7) (cl v0 v1 8) (cl v0 v1 9)) 2).toInt)) (
                cond (decide ((sl (f15_0 (.bool true) v2 (.bool v3) v4 (.bool v5) v6 (.bool v7)) 0).toInt = 1)) (
                 cond ((sl (f15_0 (.bool true) v2 (.bool v3) v4 (.bool v5) v6 (.bool v7)) 1).toBool) (
                  f19_1 v0 (.int (IntKind.wrap .i64 (v1 + 1))) v2 (.bool v3) v4 (.bool v5) v6 (.bool v7)) (
                  .row [.int 1, (.bool false)])) (
                 .row [])) (
                .row [.int 1, (.bool false)])) (
               .row [.int 1, (.bool false)])) (
              cond ((sl (f7_0 v4 (.bool v5) v6 (.bool v7) (cl v0 v1 1) (cl v0 v1 2) (cl v0 v1 3) (cl v0 v1 4) (cl v0 v1 5) (cl v0 v1 6) (cl v0 v1 7) (cl v0 v1 8) (cl v0 v1 9)) 1).toBool) (
               .row [.int 1, (.bool false)]) (
               cond (decide ((sl (f10_0 (.bool true) v2 (.bool v3) (cl v0 v1 1) (cl v0 v1 2) (cl v0 v1 3) (cl v0 v1 4) (cl v0 v1 5) (cl v0 v1 6) (cl v0 v1 7) (cl v0 v1 8) (cl v0 v1 9)) 2).toInt = (sl (f7_0 v4 (.bool v5) v6 (.bool v7) (cl v0 v1 1) (cl v0 v1 2) (cl v0 v1 3) (cl v0 v1 4) (cl v0 v1 5) (cl v0 v1 6) (cl v0 v1 7) (cl v0 v1 8) (cl v0 v1 9)) 2).toInt)) (
                cond (decide ((sl (f15_0 (.bool true) v2 (.bool v3) v4 (.bool v5) v6 (.bool v7)) 0).toInt = 1)) (
                 cond ((sl (f15_0 (.bool true) v2 (.bool v3) v4 (.bool v5) v6 (.bool v7)) 1).toBool) (
                  f19_1 v0 (.int (IntKind.wrap .i64 (v1 + 1))) v2 (.bool v3) v4 (.bool v5) v6 (.bool v7)) (
                  .row [.int 1, (.bool false)])) (
                 .row [])) (
                .row [.int 1, (.bool false)])))) (
             .row [])) (
            .row [])))))))))) (
   cond (decide ((sl (f1_0) 0).toInt = 1)) (
    .row [.int 1, (.bool true)]) (
    .row [])) :=
  (g_walk lt (T := t19) (t := t19p1) rfl rfl).trans (cg (lE rfl rfl) (cg (lE rfl rfl) rfl (cg (lE rfl rfl) (cg (qE rfl rfl) rfl rfl) (cg (lE rfl rfl) (cg (qE rfl rfl) rfl rfl) (cg (qE rfl rfl) (cg (qE rfl rfl) (cg (qE rfl rfl) (cg (qE rfl rfl) (cg (qE rfl rfl) (cg (qE rfl rfl) (cg rfl rfl rfl) rfl) rfl) rfl) rfl) (cg (qE rfl rfl) (cg (qE rfl rfl) (cg (qE rfl rfl) (cg (qE rfl rfl) (cg (qE rfl rfl) (cg rfl rfl rfl) rfl) rfl) rfl) rfl) rfl)) (cg (qE rfl rfl) (cg (qE rfl rfl) (cg (qE rfl rfl) (cg (qE rfl rfl) (cg (qE rfl rfl) (cg (qE rfl rfl) (cg rfl rfl rfl) rfl) rfl) rfl) rfl) (cg (qE rfl rfl) (cg (qE rfl rfl) (cg (qE rfl rfl) (cg (qE rfl rfl) (cg (qE rfl rfl) (cg rfl rfl rfl) rfl) rfl) rfl) rfl) rfl)) (cg (qE rfl rfl) (cg (qE rfl rfl) (cg (qE rfl rfl) (cg (qE rfl rfl) (cg (qE rfl rfl) (cg (qE rfl rfl) (cg rfl rfl rfl) rfl) rfl) rfl) rfl) (cg (qE rfl rfl) (cg (qE rfl rfl) (cg (qE rfl rfl) (cg (qE rfl rfl) (cg (qE rfl rfl) (cg rfl rfl rfl) rfl) rfl) rfl) rfl) rfl)) (cg (qE rfl rfl) (cg (qE rfl rfl) (cg (qE rfl rfl) (cg (qE rfl rfl) (cg (qE rfl rfl) (cg (qE rfl rfl) (cg rfl rfl rfl) rfl) rfl) rfl) rfl) (cg (qE rfl rfl) (cg (qE rfl rfl) (cg (qE rfl rfl) (cg (qE rfl rfl) (cg (qE rfl rfl) (cg rfl rfl rfl) rfl) rfl) rfl) rfl) rfl)) (cg (qE rfl rfl) (cg (qE rfl rfl) (cg (qE rfl rfl) (cg (qE rfl rfl) (cg rfl rfl rfl) rfl) rfl) (cg (qE rfl rfl) (cg (qE rfl rfl) rfl rfl) rfl)) (cg (qE rfl rfl) (cg (qE rfl rfl) (cg rfl (cg rfl (cg (qE rfl rfl) (cg (qE rfl rfl) (cg rfl rfl rfl) rfl) rfl) rfl) (cg rfl rfl (cg (qE rfl rfl) (cg (qE rfl rfl) (cg rfl rfl rfl) rfl) rfl))) rfl) rfl))))))))) (cg (qE rfl rfl) rfl rfl))
end
end Go.CP
namespace Go.CP
open Go.AE
/-! COUNTERPLAYS: banks -/
theorem strEq_refl (d : D) : D.strEq d d = true := by simp [D.strEq, AE.strEq]
/-- a bank and the reference's say the same: names, limits, values -/
structure Bk (B Df Vl : D) : Prop where
  wdB : Wd B 3
  lenD : len Df = len B
  lenV : len Vl = len B
  nm : ∀ i : Int, 0 ≤ i → i < len B → cl B i 0 = cl Df i 0
  lim : ∀ i : Int, 0 ≤ i → i < len B → cl B i 1 = cl Df i 1
  val : ∀ i : Int, 0 ≤ i → i < len B → cl B i 2 = cl Vl i 0
section
variable [While]
theorem known_eq : f1_0 = .row [.int 1] := by rw [e1_0]
theorem few_loop {v : D} : ∀ (k i : Nat), i + k = 7 → ∃ b, f0_1 v (.int i) = .row [.int 1, .bool b] ∧ (b = true → len v ≤ 6)
  | 0, i, hi => by
    rw [e0_1]
    by_cases q : (i : Int) < len v
    · rw [ifT q, ifF (by omega)]
      exact ⟨_, rfl, fun h => by
        have : ¬ (6 < (len v : Int)) := fun c => by rw [decide_eq_true c] at h; cases h
        omega⟩
    · rw [ifF q]
      exact ⟨_, rfl, fun h => by
        have : ¬ (6 < (len v : Int)) := fun c => by rw [decide_eq_true c] at h; cases h
        omega⟩
  | k + 1, i, hi => by
    rw [e0_1]
    by_cases q : (i : Int) < len v
    · rw [ifT q, ifT (by omega), ifF (by omega)]
      by_cases q2 : 60 < (slen (cl v i 0) : Int)
      · rw [ifT q2]
        exact ⟨false, rfl, fun h => by cases h⟩
      · rw [ifF q2, wrap_i64 (by omega) (by omega), show (i : Int) + 1 = ((i + 1 : Nat) : Int) by omega]
        exact few_loop k (i + 1) (by omega)
    · rw [ifF q]
      exact ⟨_, rfl, fun h => by
        have : ¬ (6 < (len v : Int)) := fun c => by rw [decide_eq_true c] at h; cases h
        omega⟩
theorem few_eq (v : D) : ∃ b, f0_0 v = .row [.int 1, .bool b] ∧ (b = true → len v ≤ 6) := by
  rw [e0_0]
  exact few_loop 7 0 rfl
/-- the first one that has a name -/
theorem find_loop {B s : D} {n : Bool} (hB : len B < 1000000) : ∀ (k i : Nat), i + k = len B → (∀ j : Nat, j < i → D.strEq (cl B j 0) s = false) →
    (f2_1 B (.bool n) (.int i) s = .row [.int 1, .int (-1)] ∧ ∀ j : Nat, j < len B → D.strEq (cl B j 0) s = false) ∨
    ∃ j : Nat, f2_1 B (.bool n) (.int i) s = .row [.int 1, .int j] ∧ j < len B ∧ D.strEq (cl B j 0) s = true ∧ ∀ j' : Nat, j' < j → D.strEq (cl B j' 0) s = false
  | 0, i, hi, h => by
    rw [e2_1, ifF (by omega)]
    exact .inl ⟨rfl, fun j hj => h j (by omega)⟩
  | k + 1, i, hi, h => by
    rw [e2_1, ifT (by omega), ifF (by omega)]
    cases q : D.strEq (cl B i 0) s with
    | true =>
      rw [cT rfl]
      exact .inr ⟨i, rfl, by omega, q, h⟩
    | false =>
      rw [cF rfl, wrap_i64 (by omega) (by omega), show (i : Int) + 1 = ((i + 1 : Nat) : Int) by omega]
      refine find_loop hB k (i + 1) (by omega) fun j hj => ?_
      rcases Nat.lt_or_ge j i with c | c
      · exact h j c
      · have : j = i := by omega
        subst this
        exact q
theorem find_eq {B s : D} {n : Bool} (hB : len B < 1000000) :
    (f2_0 B (.bool n) s = .row [.int 1, .int (-1)] ∧ ∀ j : Nat, j < len B → D.strEq (cl B j 0) s = false) ∨
    ∃ j : Nat, f2_0 B (.bool n) s = .row [.int 1, .int j] ∧ j < len B ∧ D.strEq (cl B j 0) s = true ∧ ∀ j' : Nat, j' < j → D.strEq (cl B j' 0) s = false := by
  rw [e2_0]
  exact find_loop hB (len B) 0 (by omega) fun j hj => by omega
theorem find3 {B s : D} {n b : Bool} (hB : len B < 1000000) :
    (f3_0 (.bool b) B (.bool n) s = .row [.int 1, .int (-1)] ∧ ∀ j : Nat, j < len B → D.strEq (cl B j 0) s = false) ∨
    ∃ j : Nat, f3_0 (.bool b) B (.bool n) s = .row [.int 1, .int j] ∧ j < len B ∧ D.strEq (cl B j 0) s = true ∧ ∀ j' : Nat, j' < j → D.strEq (cl B j' 0) s = false := by
  rw [e3_0]
  rcases find_eq (n := n) (s := s) hB with ⟨e, h⟩ | ⟨j, e, h⟩
  · rw [e, ifT (by rfl)]
    exact .inl ⟨rfl, h⟩
  · rw [e, ifT (by rfl)]
    exact .inr ⟨j, rfl, h⟩
/-- the reference's loop over the names before -/
theorem dup_loop {v Df Vl : D} {x y : Bool} {i : Nat} (hi : i < len v) (hv : len v < 1000) (hD : len Df = i) (hV : len Vl = i) : ∀ (k j : Nat), j + k = i → (∀ j' : Nat, j' < j → D.strEq (cl v j' 0) (cl v i 0) = false) →
    (f5_2 v (.int i) (.int j) Df (.bool x) Vl (.bool y) = f5_1 v (.int (i + 1 : Nat)) (ad Df (.row [cl v i 0, cl v i 1])) (.bool false) (ad Vl (.row [.int 0])) (.bool false) ∧ ∀ j : Nat, j < i → D.strEq (cl v j 0) (cl v i 0) = false) ∨
    (f5_2 v (.int i) (.int j) Df (.bool x) Vl (.bool y) = .row [.int 1, nilD, .bool true, nilD, .bool true, .int 2] ∧ ∃ j : Nat, j < i ∧ D.strEq (cl v j 0) (cl v i 0) = true)
  | 0, j, hj, h => by
    rw [e5_2, ifF (by omega), ifF (by omega), ifT (by omega), ifT (by omega), ifT (by omega), wrap_i64 (by omega) (by omega), show (i : Int) + 1 = ((i + 1 : Nat) : Int) by omega]
    exact .inl ⟨rfl, fun j' hj' => h j' (by omega)⟩
  | k + 1, j, hj, h => by
    rw [e5_2, ifT (by omega), ifF (by omega), ifT (by omega), ifF (by omega), ifT (by omega)]
    cases q : D.strEq (cl v j 0) (cl v i 0) with
    | true =>
      rw [cT rfl]
      exact .inr ⟨rfl, j, by omega, q⟩
    | false =>
      rw [cF rfl, wrap_i64 (by omega) (by omega), show (j : Int) + 1 = ((j + 1 : Nat) : Int) by omega]
      refine dup_loop hi hv hD hV k (j + 1) (by omega) fun j' hj' => ?_
      rcases Nat.lt_or_ge j' j with c | c
      · exact h j' c
      · have : j' = j := by omega
        subst this
        exact q
/-- a bank that was made of definitions -/
structure Made (v B Df Vl : D) (nb : Bool) : Prop where
  bk : Bk B Df Vl
  nl : nb = true → len B = 0
  le : len B ≤ len v
  nm : ∀ i : Int, 0 ≤ i → i < len B → cl B i 0 = cl v i 0
  lim : ∀ i : Int, 0 ≤ i → i < len B → cl B i 1 = cl v i 1
  ok : ∀ i : Int, 0 ≤ i → i < len B → 1 ≤ (cl v i 1).toInt ∧ (cl v i 1).toInt ≤ 1000
  zero : ∀ i : Int, 0 ≤ i → i < len B → cl B i 2 = .int 0
  int : Wd Vl 1
  di : ∀ j i : Nat, j < i → i < len B → D.strEq (cl B j 0) (cl B i 0) = false
omit [While] in
theorem Bk.ad {B Df Vl a b c : D} (h : Bk B Df Vl) : Bk (ad B (.row [a, b, c])) (AE.ad Df (.row [a, b])) (AE.ad Vl (.row [c])) where
  wdB := wd_ad h.wdB rfl
  lenD := by rw [len_ad, len_ad, h.lenD]
  lenV := by rw [len_ad, len_ad, h.lenV]
  nm := fun i h0 hi => by
    rw [len_ad] at hi
    rw [cl_ad h0, cl_ad h0, h.lenD]
    split
    · rfl
    · exact h.nm i h0 (by omega)
  lim := fun i h0 hi => by
    rw [len_ad] at hi
    rw [cl_ad h0, cl_ad h0, h.lenD]
    split
    · rfl
    · exact h.lim i h0 (by omega)
  val := fun i h0 hi => by
    rw [len_ad] at hi
    rw [cl_ad h0, cl_ad h0, h.lenV]
    split
    · rfl
    · exact h.val i h0 (by omega)
theorem new_loop {v : D} (hv : len v ≤ 4) : ∀ (k i : Nat) (B Df Vl : D) (nb x y : Bool), i + k = len v → len B = i → Made v B Df Vl nb →
    (f4_1 v (.int i) B (.bool nb) = .row [.int 1] ∧ f5_1 v (.int i) Df (.bool x) Vl (.bool y) = .row [.int 1, nilD, .bool true, nilD, .bool true, .int 2]) ∨
    ∃ B' Df' Vl' nb' x' y', f4_1 v (.int i) B (.bool nb) = .row [.int 2, B', .bool nb'] ∧ f5_1 v (.int i) Df (.bool x) Vl (.bool y) = .row [.int 1, Df', .bool x', Vl', .bool y', .int 0] ∧ Made v B' Df' Vl' nb' ∧ len B' = len v
  | 0, i, B, Df, Vl, nb, x, y, hi, hB, h => by
    have E3 := e4_1 v i B nb
    have E4 := e5_1 v i Df x Vl y
    rw [ifF (by omega)] at E3 E4
    exact .inr ⟨B, Df, Vl, nb, x, y, E3, E4, h, by omega⟩
  | k + 1, i, B, Df, Vl, nb, x, y, hi, hB, h => by
    have E3 := e4_1 v i B nb
    have E4 := e5_1 v i Df x Vl y
    rw [ifT (by omega), ifF (by omega)] at E3 E4
    cases q1 : eqC (cl v i 0) 0 0 with
    | true =>
      rw [cT q1] at E3 E4
      exact .inl ⟨E3, E4⟩
    | false =>
    rw [cF q1] at E3 E4
    by_cases q2 : (cl v i 1).toInt < 1
    · rw [ifT q2] at E3 E4
      exact .inl ⟨E3, E4⟩
    rw [ifF q2] at E3 E4
    by_cases q3 : 1000 < (cl v i 1).toInt
    · rw [ifT q3] at E3 E4
      exact .inl ⟨E3, E4⟩
    rw [ifF q3] at E3 E4
    have hD := h.bk.lenD
    have hV := h.bk.lenV
    have hnm : ∀ j : Nat, j < i → cl B j 0 = cl v j 0 := fun j hj => h.nm j (by omega) (by omega)
    rcases dup_loop (x := x) (y := y) (show i < len v by omega) (by omega) (hD.trans hB) (hV.trans hB) i 0 (by omega) (fun j hj => by omega) with ⟨e4, g⟩ | ⟨e4, j, hj, g⟩
    · rcases find3 (B := B) (s := cl v i 0) (n := nb) (b := true) (by omega) with ⟨e, g'⟩ | ⟨j, e, hj, g', _⟩
      · have e4 : f5_2 v (.int i) (.int 0) Df (.bool x) Vl (.bool y) = _ := e4
        rw [e, ifT (by rfl), ifT (by decide), ifT (by omega), wrap_i64 (by omega) (by omega), show (i : Int) + 1 = ((i + 1 : Nat) : Int) by omega] at E3
        rw [e4] at E4
        rw [E3, E4]
        refine new_loop hv k (i + 1) _ _ _ false false false (by omega) (by rw [len_ad, hB]) ⟨h.bk.ad, fun c => (by cases c), by rw [len_ad]; omega, fun j h0 hj => ?_, fun j h0 hj => ?_, fun j h0 hj => ?_, fun j h0 hj => ?_, wd_ad h.int rfl, fun j i' hj hi' => ?_⟩
        all_goals first | rw [len_ad] at hj | rw [len_ad] at hi'
        · rw [cl_ad h0]
          split
          · rename_i c; rw [c, hB]; rfl
          · exact h.nm j h0 (by omega)
        · rw [cl_ad h0]
          split
          · rename_i c; rw [c, hB]; rfl
          · exact h.lim j h0 (by omega)
        · by_cases c : j = i
          · rw [c]; omega
          · exact h.ok j h0 (by omega)
        · rw [cl_ad h0]
          split
          · rfl
          · exact h.zero j h0 (by omega)
        · rw [cl_ad (by omega), cl_ad (by omega), if_neg (by omega)]
          split
          · exact g' j (by omega)
          · exact h.di j i' hj (by omega)
      · rw [hnm j (by omega), g j (by omega)] at g'
        cases g'
    · rcases find3 (B := B) (s := cl v i 0) (n := nb) (b := true) (by omega) with ⟨e, g'⟩ | ⟨j', e, hj', g', _⟩
      · have := g' j (by omega)
        rw [hnm j (by omega), g] at this
        cases this
      · have e4 : f5_2 v (.int i) (.int 0) Df (.bool x) Vl (.bool y) = _ := e4
        rw [e, ifT (by rfl), ifF (by show ¬ ((j' : Int) < 0); omega)] at E3
        rw [e4] at E4
        exact .inl ⟨E3, E4⟩
omit [While] in
theorem made_nil (v : D) : Made v nilD nilD nilD true := by
  have h : ∀ {i : Int} {P : Prop}, 0 ≤ i → i < len nilD → P := fun h0 hi => by rw [len_nilD] at hi; omega
  exact ⟨⟨wd_nilD, rfl, rfl, fun i h0 hi => h h0 hi, fun i h0 hi => h h0 hi, fun i h0 hi => h h0 hi⟩, fun _ => rfl, by rw [len_nilD]; omega, fun i h0 hi => h h0 hi, fun i h0 hi => h h0 hi, fun i h0 hi => h h0 hi, fun i h0 hi => h h0 hi, wd_nilD, fun j i _ hi => by rw [len_nilD] at hi; omega⟩
theorem new_eq (v : D) : (f4_0 v = .row [.int 1] ∧ f5_0 v = .row [.int 1, nilD, .bool true, nilD, .bool true, .int 2]) ∨
    ∃ B Df Vl nb x y, f4_0 v = .row [.int 2, B, .bool nb] ∧ f5_0 v = .row [.int 1, Df, .bool x, Vl, .bool y, .int 0] ∧ Made v B Df Vl nb ∧ len B = len v ∧ len v ≤ 4 := by
  have E3 := e4_0 v
  have E4 := e5_0 v
  by_cases q : 4 < (len v : Int)
  · rw [ifT q] at E3 E4
    exact .inl ⟨E3, E4⟩
  · rw [ifF q] at E3 E4
    rw [E3, E4]
    rcases new_loop (v := v) (by omega) (len v) 0 nilD nilD nilD true true true (by omega) rfl (made_nil v) with c | ⟨B, Df, Vl, nb, x, y, e1, e2, e3, e4⟩
    · exact .inl c
    · exact .inr ⟨B, Df, Vl, nb, x, y, e1, e2, e3, e4, by omega⟩
end
end Go.CP
namespace Go.CP
open Go.AE
/-! COUNTERPLAYS: the calls, the program's and the reference's -/
/-- the value and the limit of counter i -/
abbrev vl (Vl : D) (i : Int) : Int := (cl Vl i 0).toInt
abbrev lm (Df : D) (i : Int) : Int := (cl Df i 1).toInt
structure Ok (B Df Vl : D) (nb : Bool) : Prop where
  bk : Bk B Df Vl
  nl : nb = true → len B = 0
  small : len B ≤ 4
  lim : ∀ i : Int, 0 ≤ i → i < len B → 1 ≤ lm Df i ∧ lm Df i ≤ 1000
  rng : ∀ i : Int, 0 ≤ i → i < len B → 0 ≤ vl Vl i ∧ vl Vl i ≤ lm Df i
  wdV : Wd Vl 1
  di : ∀ j i : Nat, j < i → i < len B → D.strEq (cl B j 0) (cl B i 0) = false
theorem Made.toOk {v B Df Vl : D} {nb : Bool} (h : Made v B Df Vl nb) (hs : len v ≤ 4) : Ok B Df Vl nb where
  bk := h.bk
  nl := h.nl
  small := by have := h.le; omega
  lim := fun i h0 hi => by
    have := h.ok i h0 hi
    rw [← h.lim i h0 hi, h.bk.lim i h0 hi] at this
    exact this
  rng := fun i h0 hi => by
    have e : vl Vl i = 0 := by show (cl Vl i 0).toInt = 0; rw [← h.bk.val i h0 hi, h.zero i h0 hi]; rfl
    have := h.ok i h0 hi
    rw [← h.lim i h0 hi, h.bk.lim i h0 hi] at this
    have hl : lm Df i = (cl Df i 1).toInt := rfl
    omega
  wdV := h.int
  di := h.di
section
variable [While]
theorem find6_loop {Df Vl s : D} {x y : Bool} (hB : len Df < 1000000) : ∀ (k i : Nat), i + k = len Df → (∀ j : Nat, j < i → D.strEq (cl Df j 0) s = false) →
    (f6_1 s (.int i) Df Vl (.bool x) (.bool y) = .row [.int 1, .int (-1)] ∧ ∀ j : Nat, j < len Df → D.strEq (cl Df j 0) s = false) ∨
    ∃ j : Nat, f6_1 s (.int i) Df Vl (.bool x) (.bool y) = .row [.int 1, .int j] ∧ j < len Df ∧ D.strEq (cl Df j 0) s = true ∧ ∀ j' : Nat, j' < j → D.strEq (cl Df j' 0) s = false
  | 0, i, hi, h => by
    rw [e6_1, ifF (by omega)]
    exact .inl ⟨rfl, fun j hj => h j (by omega)⟩
  | k + 1, i, hi, h => by
    rw [e6_1, ifT (by omega), ifF (by omega)]
    cases q : D.strEq (cl Df i 0) s with
    | true =>
      rw [cT rfl]
      exact .inr ⟨i, rfl, by omega, q, h⟩
    | false =>
      rw [cF rfl, wrap_i64 (by omega) (by omega), show (i : Int) + 1 = ((i + 1 : Nat) : Int) by omega]
      refine find6_loop hB k (i + 1) (by omega) fun j hj => ?_
      rcases Nat.lt_or_ge j i with c | c
      · exact h j c
      · have : j = i := by omega
        subst this
        exact q
/-- both find the same -/
theorem find_both {B Df Vl s : D} {nb x y : Bool} (h : Bk B Df Vl) (hl : len B ≤ 4) :
    ((∀ b, f3_0 (.bool b) B (.bool nb) s = .row [.int 1, .int (-1)]) ∧ f6_0 Df (.bool x) Vl (.bool y) s = .row [.int 1, .int (-1)]) ∨
    ∃ j : Nat, (∀ b, f3_0 (.bool b) B (.bool nb) s = .row [.int 1, .int j]) ∧ f6_0 Df (.bool x) Vl (.bool y) s = .row [.int 1, .int j] ∧ j < len B ∧ D.strEq (cl B j 0) s = true ∧ ∀ j' : Nat, j' < j → D.strEq (cl B j' 0) s = false := by
  have hD := h.lenD
  have hf : ∀ {r}, f2_0 B (.bool nb) s = .row [.int 1, .int r] → ∀ b, f3_0 (.bool b) B (.bool nb) s = .row [.int 1, .int r] := by
    intro r e b
    rw [e3_0, e, ifT (by rfl)]
    rfl
  have h6 := find6_loop (Vl := Vl) (x := x) (y := y) (s := s) (show len Df < 1000000 by omega) (len Df) 0 (by omega) fun j hj => by omega
  rw [e6_0]
  rcases find_eq (n := nb) (s := s) (show len B < 1000000 by omega) with ⟨e, g⟩ | ⟨j, e, hj, g1, g2⟩
  · rcases h6 with ⟨e6, _⟩ | ⟨j, _, hj, g1, _⟩
    · exact .inl ⟨hf e, e6⟩
    · have := g j (by omega)
      rw [h.nm j (by omega) (by omega), g1] at this
      cases this
  · rcases h6 with ⟨_, g6⟩ | ⟨j6, e6, hj6, g3, g4⟩
    · have := g6 j (by omega)
      rw [← h.nm j (by omega) (by omega), g1] at this
      cases this
    · have : j6 = j := by
        rcases Nat.lt_trichotomy j6 j with c | c | c
        · have := g2 j6 c
          rw [h.nm j6 (by omega) (by omega), g3] at this
          cases this
        · exact c
        · have := g4 j c
          rw [← h.nm j (by omega) (by omega), g1] at this
          cases this
      subst this
      exact .inr ⟨j6, hf e, e6, hj, g1, g2⟩
/-- Allowed, both -/
theorem allowed_eq {B Df Vl : D} {nb x y : Bool} (h : Ok B Df Vl nb) (s1 s2 s4 s5 nm : D) (k lo hi a : Int) :
    ∃ (b : Bool) (e : Int), f10_0 (.bool true) B (.bool nb) s1 s2 (.int k) s4 s5 nm (.int lo) (.int hi) (.int a) = .row [.int 1, .bool b, .int e] ∧
      f7_0 Df (.bool x) Vl (.bool y) s1 s2 (.int k) s4 s5 nm (.int lo) (.int hi) (.int a) = .row [.int 1, .bool b, .int e] ∧
      (e = 0 → b = true → eqC nm 0 0 = false → ∃ j : Nat, (∀ b, f3_0 (.bool b) B (.bool nb) nm = .row [.int 1, .int j]) ∧ f6_0 Df (.bool x) Vl (.bool y) nm = .row [.int 1, .int j] ∧ j < len B ∧ 0 ≤ vl Vl j + a ∧ vl Vl j + a ≤ lm Df j) := by
  have hD := h.bk.lenD
  have hV := h.bk.lenV
  have E10 := e10_0 true B nb s1 s2 k s4 s5 nm lo hi a
  have E7 := e7_0 Df x Vl y s1 s2 k s4 s5 nm lo hi a
  rw [cT rfl] at E10
  cases q : eqC nm 0 0 with
  | true =>
    rw [cT q] at E10 E7
    exact ⟨true, 0, E10, E7, fun _ _ c => by cases c⟩
  | false =>
  rw [cF q] at E10 E7
  have E9 := e9_0 true B nb nm
  rw [cT rfl] at E9
  rcases find_both (s := nm) (nb := nb) (x := x) (y := y) h.bk h.small with ⟨e3, e6⟩ | ⟨j, e3, e6, hj, g1, g2⟩
  · rw [e3, ifT (by rfl), ifT (by decide)] at E9
    rw [E9, ifT (by rfl), ifF (by decide)] at E10
    rw [e6, ifT (by rfl), ifT (by decide)] at E7
    exact ⟨false, 9, E10, E7, fun c => by cases c⟩
  · have hj0 : (sl (D.row [.int 1, .int (j : Nat)]) 1).toInt = j := rfl
    have hr := h.rng j (by omega) (by omega)
    have hli := h.lim j (by omega) (by omega)
    have hval : cl B j 2 = cl Vl j 0 := h.bk.val j (by omega) (by omega)
    have hlm : cl B j 1 = cl Df j 1 := h.bk.lim j (by omega) (by omega)
    rw [e3, ifT (by rfl), hj0, ifF (by omega), ifT (by omega), hval] at E9
    have hs1 : sl (D.row [.int 1, cl Vl j 0, .int 0]) 1 = cl Vl j 0 := rfl
    rw [E9, ifT (by rfl), ifT (by rfl), hs1, e3, ifT (by rfl), hj0, ifF (by omega), ifT (by omega), hlm] at E10
    rw [e6, ifT (by rfl), hj0, ifF (by omega), ifT (by omega), ifT (by omega)] at E7
    have ev : (cl Vl j 0).toInt = vl Vl j := rfl
    have el : (cl Df j 1).toInt = lm Df j := rfl
    rw [ev, el] at E10 E7
    rw [wrap_i64 (a := 0 - vl Vl j) (by omega) (by omega), wrap_i64 (a := lm Df j - vl Vl j) (by omega) (by omega)] at E10
    by_cases q1 : vl Vl j < lo
    · rw [ifT q1] at E10 E7
      exact ⟨false, 0, E10, E7, fun _ c => by cases c⟩
    rw [ifF q1] at E10 E7
    by_cases q2 : hi < vl Vl j
    · rw [ifT q2] at E10 E7
      exact ⟨false, 0, E10, E7, fun _ c => by cases c⟩
    rw [ifF q2] at E10 E7
    by_cases q3 : a < 0 - vl Vl j
    · rw [ifT q3] at E10
      refine ⟨false, 0, E10, ?_, fun _ c => by cases c⟩
      rw [E7]
      by_cases q4 : a < -1000
      · rw [ifT q4]
      · rw [ifF q4, ifF (by omega), wrap_i64 (by omega) (by omega), ifT (by omega)]
    rw [ifF q3] at E10
    by_cases q4 : lm Df j - vl Vl j < a
    · rw [decide_eq_true q4] at E10
      refine ⟨false, 0, E10, ?_, fun _ c => by cases c⟩
      rw [E7, ifF (by omega)]
      by_cases q5 : 1000 < a
      · rw [ifT q5]
      · rw [ifF q5, wrap_i64 (by omega) (by omega), ifF (by omega), ifT (by omega)]
    · rw [decide_eq_false q4] at E10
      refine ⟨true, 0, E10, ?_, fun _ _ _ => ⟨j, e3, e6, hj, by omega, by omega⟩⟩
      rw [E7, ifF (by omega), ifF (by omega), wrap_i64 (by omega) (by omega), ifF (by omega), ifF (by omega)]
/-- a value changed -/
theorem Ok.set {B Df Vl : D} {nb : Bool} (h : Ok B Df Vl nb) {j : Nat} (hj : j < len B) {n : Int} (h0 : 0 ≤ n) (hn : n ≤ lm Df j) : Ok (upd B j 2 (.int n)) Df (upd (ct emptyD Vl) j 0 (.int n)) nb := by
  have hV := h.bk.lenV
  have hct : len (ct emptyD Vl) = len B := by rw [len_ct, len_emptyD, hV]; omega
  have hwd : Wd (ct emptyD Vl) 1 := wd_ct wd_emptyD h.wdV
  have hcl : ∀ i, cl (ct emptyD Vl) i 0 = cl Vl i 0 := fun i => rfl
  refine ⟨⟨wd_upd h.bk.wdB, by rw [len_upd]; exact h.bk.lenD, by rw [len_upd, len_upd]; exact hct, fun i a b => ?_, fun i a b => ?_, fun i a b => ?_⟩, fun c => by rw [len_upd]; exact h.nl c, by rw [len_upd]; exact h.small, fun i a b => ?_, fun i a b => ?_, wd_upd hwd, fun i i' a b => ?_⟩
  all_goals rw [len_upd] at b
  · rw [cl_upd h.bk.wdB (by omega) (by omega) (by omega) a, if_neg (by omega)]
    exact h.bk.nm i a b
  · rw [cl_upd h.bk.wdB (by omega) (by omega) (by omega) a, if_neg (by omega)]
    exact h.bk.lim i a b
  · rw [cl_upd h.bk.wdB (by omega) (by omega) (by omega) a, cl_upd hwd (by omega) (by omega) (by omega) a, hcl]
    by_cases q : i = j
    · rw [if_pos ⟨q, rfl⟩, if_pos ⟨q, rfl⟩]
    · rw [if_neg (fun c => q c.1), if_neg (fun c => q c.1)]
      exact h.bk.val i a b
  · exact h.lim i a b
  · show 0 ≤ (cl (upd (ct emptyD Vl) j 0 (.int n)) i 0).toInt ∧ (cl (upd (ct emptyD Vl) j 0 (.int n)) i 0).toInt ≤ _
    rw [cl_upd hwd (by omega) (by omega) (by omega) a]
    by_cases q : i = j
    · rw [if_pos ⟨q, rfl⟩, q]
      exact ⟨h0, hn⟩
    · rw [if_neg (fun c => q c.1), hcl]
      exact h.rng i a b
  · rw [cl_upd h.bk.wdB (by omega) (by omega) (by omega) (by omega), cl_upd h.bk.wdB (by omega) (by omega) (by omega) (by omega), if_neg (by omega), if_neg (by omega)]
    exact h.di i i' a b
/-- Apply, both -/
theorem apply_eq {B Df Vl : D} {nb x y : Bool} (h : Ok B Df Vl nb) (s1 s2 s4 s5 nm : D) (k lo hi a : Int) :
    (∃ e : Int, f11_0 (.bool true) B (.bool nb) s1 s2 (.int k) s4 s5 nm (.int lo) (.int hi) (.int a) = .row [.int 1, .int e, B] ∧
      f8_0 Df (.bool x) Vl (.bool y) s1 s2 (.int k) s4 s5 nm (.int lo) (.int hi) (.int a) = .row [.int 1, Df, .bool x, Vl, .bool y, .int e]) ∨
    ∃ B' Vl', f11_0 (.bool true) B (.bool nb) s1 s2 (.int k) s4 s5 nm (.int lo) (.int hi) (.int a) = .row [.int 1, .int 0, B'] ∧
      f8_0 Df (.bool x) Vl (.bool y) s1 s2 (.int k) s4 s5 nm (.int lo) (.int hi) (.int a) = .row [.int 2, Df, .bool x, Vl', .bool false] ∧ Ok B' Df Vl' nb ∧ len B' = len B := by
  have hD := h.bk.lenD
  have hV := h.bk.lenV
  have hsm := h.small
  have E11 := e11_0 true B nb s1 s2 k s4 s5 nm lo hi a
  have E8 := e8_0 Df x Vl y s1 s2 k s4 s5 nm lo hi a
  obtain ⟨b, e, e10, e7, hok⟩ := allowed_eq (x := x) (y := y) h s1 s2 s4 s5 nm k lo hi a
  have hs2 : (sl (D.row [.int 1, .bool b, .int e]) 2).toInt = e := rfl
  have hs3 : sl (D.row [.int 1, .bool b, .int e]) 2 = .int e := rfl
  rw [e10, ifT (by rfl), hs2] at E11
  rw [e7, ifT (by rfl), hs2] at E8
  by_cases q : e = 0
  · rw [ifT q] at E11 E8
    cases b with
    | false =>
      rw [cF (by rfl)] at E11 E8
      exact .inl ⟨8, E11, E8⟩
    | true =>
    rw [cT (by rfl)] at E11 E8
    cases q2 : eqC nm 0 0 with
    | true =>
      rw [cT q2] at E11 E8
      exact .inl ⟨0, E11, E8⟩
    | false =>
    rw [cF q2] at E11 E8
    obtain ⟨j, e3, e6, hj, h1, h2⟩ := hok q rfl q2
    have hj0 : (sl (D.row [.int 1, .int (j : Nat)]) 1).toInt = j := rfl
    have hr := h.rng j (by omega) (by omega)
    have hli := h.lim j (by omega) (by omega)
    have hval : cl B j 2 = cl Vl j 0 := h.bk.val j (by omega) (by omega)
    have hct : len (ct emptyD Vl) = len B := by rw [len_ct, len_emptyD, hV]; omega
    have hcl : cl (ct emptyD Vl) j 0 = cl Vl j 0 := rfl
    have ev : (cl Vl j 0).toInt = vl Vl j := rfl
    rw [e3, ifT (by rfl), hj0, ifF (by omega), ifT (by omega), hval, ev, wrap_i64 (by omega) (by omega)] at E11
    rw [e6, ifT (by rfl), hj0, ifT (by omega), ifF (by omega), ifT (by omega), hcl, ev, wrap_i64 (by omega) (by omega)] at E8
    exact .inr ⟨_, _, E11, E8, h.set hj h1 h2, len_upd⟩
  · rw [ifF q, hs3] at E11 E8
    exact .inl ⟨e, E11, E8⟩
/-- values written over a bank's -/
def putV (B V : D) : Nat → D
  | 0 => B
  | n + 1 => upd (putV B V n) (n : Nat) 2 (cl V (n : Nat) 0)
omit [While] in
theorem len_putV {B V : D} : ∀ n, len (putV B V n) = len B
  | 0 => rfl
  | n + 1 => by rw [putV, len_upd, len_putV n]
omit [While] in
theorem wd_putV {B V : D} (h : Wd B 3) : ∀ n, Wd (putV B V n) 3
  | 0 => h
  | n + 1 => wd_upd (wd_putV h n)
omit [While] in
theorem cl_putV {B V : D} (h : Wd B 3) : ∀ n : Nat, n ≤ len B → ∀ (i : Int) (j : Nat), 0 ≤ i → cl (putV B V n) i j = if i < n ∧ j = 2 then cl V i 0 else cl B i j
  | 0, _, i, j, h0 => by rw [if_neg (by omega)]; rfl
  | n + 1, hn, i, j, h0 => by
    rw [putV, cl_upd (wd_putV h n) (by omega) (by omega) (by rw [len_putV]; omega) h0, cl_putV h n (by omega) i j h0]
    by_cases q : i = n ∧ j = 2
    · rw [if_pos q, if_pos ⟨by omega, q.2⟩, q.1]
    · rw [if_neg q]
      by_cases q2 : i < n ∧ j = 2
      · rw [if_pos q2, if_pos ⟨by omega, q2.2⟩]
      · rw [if_neg q2, if_neg (fun c => by
          by_cases q3 : i = n
          · exact q ⟨q3, c.2⟩
          · exact q2 ⟨by omega, c.2⟩)]
omit [While] in
theorem Bk.put {B Df Vl V : D} (h : Bk B Df Vl) (hV : len V = len B) : Bk (putV B V (len B)) Df (ct emptyD V) where
  wdB := wd_putV h.wdB _
  lenD := by rw [len_putV, h.lenD]
  lenV := by rw [len_putV, len_ct, hV, len_emptyD]; omega
  nm := fun i h0 hi => by
    rw [len_putV] at hi
    rw [cl_putV h.wdB _ (Nat.le_refl _) i 0 h0, if_neg (by omega)]
    exact h.nm i h0 hi
  lim := fun i h0 hi => by
    rw [len_putV] at hi
    rw [cl_putV h.wdB _ (Nat.le_refl _) i 1 h0, if_neg (by omega)]
    exact h.lim i h0 hi
  val := fun i h0 hi => by
    rw [len_putV] at hi
    rw [cl_putV h.wdB _ (Nat.le_refl _) i 2 h0, if_pos ⟨hi, rfl⟩]
    rfl
theorem put2_loop {V : D} {x y : Bool} {B : D} (hV : len V = len B) (hl : len B < 1000) : ∀ (k i : Nat), i + k = len B →
    f17_2 V (.int (len V)) (.int i) (.bool x) (putV B V i) (.bool y) = .row [.int 1, .int 0, putV B V (len B)]
  | 0, i, hi => by
    have : i = len B := by omega
    subst this
    rw [e17_2, ifF (by omega)]
  | k + 1, i, hi => by
    rw [e17_2, ifT (by omega), ifF (by omega), ifT (by omega), ifT (by rw [len_putV]; omega), wrap_i64 (by omega) (by omega), show (i : Int) + 1 = ((i + 1 : Nat) : Int) by omega]
    exact put2_loop hV hl k (i + 1) (by omega)
theorem put_loop {V B Df Vl : D} {x y nb b : Bool} (h : Bk B Df Vl) (hV : len V = len B) (hl : len B < 1000) : ∀ (k i : Nat), i + k = len B → (∀ j : Int, 0 ≤ j → j < i → 0 ≤ vl V j ∧ vl V j ≤ lm Df j) →
    (∃ c : Int, f17_1 V (.int i) (.bool b) B (.bool nb) = .row [.int 1, .int c, B] ∧ f16_1 V (.int i) Df Vl (.bool x) (.bool y) = .row [.int 1, Df, .bool x, Vl, .bool y, .int c]) ∨
    (f17_1 V (.int i) (.bool b) B (.bool nb) = .row [.int 1, .int 0, putV B V (len B)] ∧ f16_1 V (.int i) Df Vl (.bool x) (.bool y) = .row [.int 2, Df, .bool x, ct emptyD V, .bool false] ∧ ∀ j : Int, 0 ≤ j → j < len B → 0 ≤ vl V j ∧ vl V j ≤ lm Df j)
  | 0, i, hi, hr => by
    have E8 := e17_1 V i b B nb
    have E5 := e16_1 V i Df Vl x y
    rw [ifF (by omega)] at E8 E5
    rw [ifT (by omega)] at E5
    refine .inr ⟨E8.trans ?_, E5, fun j h0 hj => hr j h0 (by omega)⟩
    exact put2_loop hV hl (len B) 0 (by omega)
  | k + 1, i, hi, hr => by
    have E8 := e17_1 V i b B nb
    have E5 := e16_1 V i Df Vl x y
    have hD := h.lenD
    rw [ifT (by omega), ifF (by omega)] at E8 E5
    by_cases q1 : (cl V i 0).toInt < 0
    · rw [ifT q1] at E8 E5
      exact .inl ⟨3, E8, E5⟩
    rw [ifF q1, ifT (by omega)] at E8 E5
    have e1 : cl B i 1 = cl Df i 1 := h.lim i (by omega) (by omega)
    rw [e1] at E8
    by_cases q2 : (cl Df i 1).toInt < (cl V i 0).toInt
    · rw [ifT q2] at E8 E5
      exact .inl ⟨3, E8, E5⟩
    rw [ifF q2, wrap_i64 (by omega) (by omega), show (i : Int) + 1 = ((i + 1 : Nat) : Int) by omega] at E8 E5
    rw [E8, E5]
    refine put_loop h hV hl k (i + 1) (by omega) fun j h0 hj => ?_
    by_cases c : j = i
    · rw [c]
      have a1 : vl V i = (cl V i 0).toInt := rfl
      have a2 : lm Df i = (cl Df i 1).toInt := rfl
      omega
    · exact hr j h0 (by omega)
theorem put_eq {V B Df Vl : D} {x y nb : Bool} (h : Ok B Df Vl nb) (hw : Wd V 1) :
    (∃ c : Int, f17_0 (.bool true) B (.bool nb) V = .row [.int 1, .int c, B] ∧ f16_0 Df (.bool x) Vl (.bool y) V = .row [.int 1, Df, .bool x, Vl, .bool y, .int c]) ∨
    ∃ B' Vl', f17_0 (.bool true) B (.bool nb) V = .row [.int 1, .int 0, B'] ∧ f16_0 Df (.bool x) Vl (.bool y) V = .row [.int 2, Df, .bool x, Vl', .bool false] ∧ Ok B' Df Vl' nb ∧ len B' = len B := by
  have E8 := e17_0 true B nb V
  have E5 := e16_0 Df x Vl y V
  have hVl := h.bk.lenV
  have hsm := h.small
  rw [cT rfl] at E8
  by_cases q : len V = len B
  · rw [ifT (by omega)] at E8 E5
    rw [E8, E5]
    rcases put_loop (x := x) (y := y) (nb := nb) (b := true) h.bk q (by omega) (len B) 0 (by omega) (fun j h0 hj => by omega) with c | ⟨c1, c2, c3⟩
    · exact .inl c
    · refine .inr ⟨_, _, c1, c2, ⟨h.bk.put q, fun c => by rw [len_putV]; exact h.nl c, by rw [len_putV]; exact hsm, fun i a b => ?_, fun i a b => ?_, wd_ct wd_emptyD hw, fun i i' a b => ?_⟩, len_putV _⟩
      all_goals rw [len_putV] at b
      · exact h.lim i a b
      · exact c3 i a b
      · rw [cl_putV h.bk.wdB _ (Nat.le_refl _) _ _ (by omega), cl_putV h.bk.wdB _ (Nat.le_refl _) _ _ (by omega), if_neg (by omega), if_neg (by omega)]
        exact h.di i i' a b
  · rw [ifF (by omega)] at E8 E5
    exact .inl ⟨2, E8, E5⟩
/-- Copy -/
theorem copy_eq {B Df Vl : D} {nb : Bool} (h : Ok B Df Vl nb) : ∃ B' nb', f18_0 (.bool true) B (.bool nb) = .row [.int 1, B', .bool nb'] ∧ Ok B' Df Vl nb' := by
  have hsm := h.small
  rw [e18_0, cT rfl]
  cases nb with
  | true =>
    rw [cT rfl]
    have h0 := h.nl rfl
    have hn : len nilD = len B := by rw [h0]; rfl
    have no : ∀ {i : Int} {P : Prop}, 0 ≤ i → i < len nilD → P := fun a b => by rw [len_nilD] at b; omega
    exact ⟨nilD, true, rfl, ⟨wd_nilD, by rw [hn]; exact h.bk.lenD, by rw [hn]; exact h.bk.lenV, fun i a b => no a b, fun i a b => no a b, fun i a b => no a b⟩, fun _ => rfl, by rw [len_nilD]; omega, fun i a b => no a b, fun i a b => no a b, h.wdV, fun i i' a b => by rw [len_nilD] at b; omega⟩
  | false =>
    rw [cF rfl, ifT (by omega)]
    have hl : len (ct emptyD B) = len B := by rw [len_ct, len_emptyD]; omega
    exact ⟨_, false, rfl, ⟨wd_ct wd_emptyD h.bk.wdB, by rw [hl]; exact h.bk.lenD, by rw [hl]; exact h.bk.lenV, fun i a b => h.bk.nm i a (by omega), fun i a b => h.bk.lim i a (by omega), fun i a b => h.bk.val i a (by omega)⟩, fun c => (by cases c), by omega, fun i a b => h.lim i a (by omega), fun i a b => h.rng i a (by omega), h.wdV, fun i i' a b => h.di i i' a (by omega)⟩
end
end Go.CP
set_option maxRecDepth 100000
namespace Go.CP
open Go.AE
/-! COUNTERPLAYS: the bank agrees with the reference; the law -/
section
variable [While]
theorem get_eq {B Df Vl : D} {nb : Bool} (h : Ok B Df Vl nb) (i : Nat) (hi : i < len B) : f9_0 (.bool true) B (.bool nb) (cl Df i 0) = .row [.int 1, cl Vl i 0, .int 0] := by
  have hsm := h.small
  have hn : cl B i 0 = cl Df i 0 := h.bk.nm i (by omega) (by omega)
  rw [e9_0, cT rfl]
  rcases find3 (B := B) (s := cl Df i 0) (n := nb) (b := true) (by omega) with ⟨e, g⟩ | ⟨j, e, hj, g1, g2⟩
  · have := g i hi
    rw [hn, strEq_refl] at this
    cases this
  · have : j = i := by
      rcases Nat.lt_trichotomy j i with c | c | c
      · have := h.di j i c hi
        rw [hn, g1] at this
        cases this
      · exact c
      · have := g2 i c
        rw [hn, strEq_refl] at this
        cases this
    subst this
    have hj0 : (sl (D.row [.int 1, .int (j : Nat)]) 1).toInt = j := rfl
    rw [e, ifT (by rfl), hj0, ifF (by omega), ifT (by omega), h.bk.val j (by omega) (by omega)]
theorem list_loop {C : D} {nc x : Bool} (hC : len C ≤ 4) : ∀ (k i : Nat) (o : D), i + k = len C → len o = i → (∀ j : Int, 0 ≤ j → j < i → cl o j 0 = cl C j 2) →
    ∃ o' x', f12_1 C (.bool nc) (.int i) o (.bool x) = .row [.int 1, o', .bool x'] ∧ len o' = len C ∧ ∀ j : Int, 0 ≤ j → j < len C → cl o' j 0 = cl C j 2
  | 0, i, o, hi, hl, h => by
    rw [e12_1, ifF (by omega)]
    exact ⟨o, x, rfl, by omega, fun j a b => h j a (by omega)⟩
  | k + 1, i, o, hi, hl, h => by
    rw [e12_1, ifT (by omega), ifF (by omega), ifT (by omega), wrap_i64 (by omega) (by omega), show (i : Int) + 1 = ((i + 1 : Nat) : Int) by omega]
    refine list_loop (x := false) hC k (i + 1) _ (by omega) (by rw [len_ad, hl]) fun j a b => ?_
    rw [cl_ad a, hl]
    split
    · rename_i c; rw [c]; rfl
    · exact h j a (by omega)
theorem all_eq {B Df Vl : D} {nb : Bool} (h : Ok B Df Vl nb) : ∃ A x, f13_0 (.bool true) B (.bool nb) = .row [.int 1, A, .bool x] ∧ len A = len B ∧ ∀ j : Int, 0 ≤ j → j < len B → cl A j 0 = cl B j 2 := by
  have hsm := h.small
  rw [e13_0, cT rfl]
  cases nb with
  | true =>
    have h0 := h.nl rfl
    obtain ⟨o', x', e, h1, h2⟩ := list_loop (C := nilD) (nc := true) (x := true) (by rw [len_nilD]; omega) 0 0 nilD rfl rfl (fun j a b => by omega)
    have e : f12_0 nilD (.bool true) nilD (.bool true) = .row [.int 1, o', .bool x'] := by rw [e12_0]; exact e
    rw [cT rfl, e, ifT (by rfl)]
    exact ⟨o', x', rfl, by rw [h1, h0]; rfl, fun j a b => by omega⟩
  | false =>
    have hl : len (ct emptyD B) = len B := by rw [len_ct, len_emptyD]; omega
    obtain ⟨o', x', e, h1, h2⟩ := list_loop (C := ct emptyD B) (nc := false) (x := true) (by omega) (len B) 0 nilD (by omega) rfl (fun j a b => by omega)
    have e : f12_0 nilD (.bool true) (ct emptyD B) (.bool false) = .row [.int 1, o', .bool x'] := by rw [e12_0]; exact e
    rw [cF rfl, ifT (by omega), Bool.false_and, e, ifT (by rfl)]
    exact ⟨o', x', rfl, by rw [h1, hl], fun j a b => h2 j a (by omega)⟩
theorem same_loop {a b : D} (hl : len a = len b) (hs : len a ≤ 4) (h : ∀ j : Int, 0 ≤ j → j < len a → (cl a j 0).toInt = (cl b j 0).toInt) {x y : Bool} : ∀ (k i : Nat), i + k = len a → f14_1 a (.bool x) b (.bool y) (.int i) = .row [.int 1, .bool true]
  | 0, i, hi => by rw [e14_1, ifF (by omega)]
  | k + 1, i, hi => by
    rw [e14_1, ifT (by omega), ifF (by omega), ifT (by omega), ifT (h i (by omega) (by omega)), wrap_i64 (by omega) (by omega), show (i : Int) + 1 = ((i + 1 : Nat) : Int) by omega]
    exact same_loop hl hs h k (i + 1) (by omega)
theorem agrees_loop {B Df Vl : D} {nb x y : Bool} (h : Ok B Df Vl nb) : ∀ (k i : Nat), i + k = len B → f15_1 (.int i) (.bool true) B (.bool nb) Df Vl (.bool x) (.bool y) = .row [.int 1, .bool true]
  | 0, i, hi => by
    have hD := h.bk.lenD
    have hV := h.bk.lenV
    obtain ⟨A, z, e, h1, h2⟩ := all_eq h
    have hsm := h.small
    have e14 : f14_0 A (.bool z) Vl (.bool y) = .row [.int 1, .bool true] := by
      rw [e14_0, ifT (by omega)]
      exact same_loop (by omega) (by omega) (fun j a b => by rw [h2 j a (by omega), h.bk.val j a (by omega)]) (len A) 0 (by omega)
    have s1 : sl (D.row [.int 1, A, .bool z]) 1 = A := rfl
    have s2 : sl (D.row [.int 1, A, .bool z]) 2 = .bool z := rfl
    rw [e15_1, ifF (by omega), e, ifT (by rfl), s1, s2, e14, ifT (by rfl)]
    rfl
  | k + 1, i, hi => by
    have hD := h.bk.lenD
    have hV := h.bk.lenV
    have hsm := h.small
    have s1 : (sl (D.row [.int 1, cl Vl i 0, .int 0]) 1).toInt = (cl Vl i 0).toInt := rfl
    rw [e15_1, ifT (by omega), ifF (by omega), get_eq h i (by omega), ifT (by rfl), ifT (by omega), s1, ifT (by rfl), ifT (by rfl), wrap_i64 (by omega) (by omega), show (i : Int) + 1 = ((i + 1 : Nat) : Int) by omega]
    exact agrees_loop h k (i + 1) (by omega)
theorem agrees_eq {B Df Vl : D} {nb x y : Bool} (h : Ok B Df Vl nb) : f15_0 (.bool true) B (.bool nb) Df (.bool x) Vl (.bool y) = .row [.int 1, .bool true] := by
  rw [e15_0]
  exact agrees_loop h (len B) 0 (by omega)
/-- an act's numbers and list are numbers and a list -/
def Act (L : D) (i : Int) : Prop := (∃ n, cl L i 3 = .int n) ∧ (∃ n, cl L i 7 = .int n) ∧ (∃ n, cl L i 8 = .int n) ∧ (∃ n, cl L i 9 = .int n) ∧ Wd (cl L i 10) 1
theorem step_eq {L B Df Vl : D} {nb x y : Bool} (h : Ok B Df Vl nb) (i : Nat) (hi : i < len L) (hL : len L ≤ 60) (hA : Act L i) :
    f19_1 L (.int i) B (.bool nb) Df (.bool x) Vl (.bool y) = .row [.int 1, .bool true] ∨
    ∃ B' Df' Vl' nb' x' y', f19_1 L (.int i) B (.bool nb) Df (.bool x) Vl (.bool y) = f19_1 L (.int (i + 1 : Nat)) B' (.bool nb') Df' (.bool x') Vl' (.bool y') ∧ Ok B' Df' Vl' nb' := by
  obtain ⟨⟨k, hk⟩, ⟨lo, hlo⟩, ⟨hi', hhi⟩, ⟨a, ha⟩, hw⟩ := hA
  rw [e19_1, ifT (by omega), ifF (by omega)]
  by_cases q1 : 10 < (len (cl L i 10) : Int)
  · rw [ifT q1, known_eq, ifT (by rfl)]
    exact .inl rfl
  rw [ifF q1]
  by_cases q2 : 60 < (slen (cl L i 6) : Int)
  · rw [ifT q2, known_eq, ifT (by rfl)]
    exact .inl rfl
  rw [ifF q2, wrap_i64 (a := (i : Int) + 1) (by omega) (by omega), show (i : Int) + 1 = ((i + 1 : Nat) : Int) by omega, hk, hlo, hhi, ha]
  right
  have hap := apply_eq (x := x) (y := y) h (cl L i 1) (cl L i 2) (cl L i 4) (cl L i 5) (cl L i 6) k lo hi' a
  have hdo : ∀ {X : D}, X = f19_1 L (.int (i + 1 : Nat)) B (.bool nb) Df (.bool x) Vl (.bool y) → ∃ B' Df' Vl' nb' x' y', X = f19_1 L (.int (i + 1 : Nat)) B' (.bool nb') Df' (.bool x') Vl' (.bool y') ∧ Ok B' Df' Vl' nb' := fun e => ⟨B, Df, Vl, nb, x, y, e, h⟩
  have hch : ∀ {X B' Vl' : D}, Ok B' Df Vl' nb → X = f19_1 L (.int (i + 1 : Nat)) B' (.bool nb) Df (.bool x) Vl' (.bool false) → ∃ B' Df' Vl' nb' x' y', X = f19_1 L (.int (i + 1 : Nat)) B' (.bool nb') Df' (.bool x') Vl' (.bool y') ∧ Ok B' Df' Vl' nb' := fun o e => ⟨_, Df, _, nb, x, false, e, o⟩
  by_cases w0 : (cl L i 0).toInt = 0
  · rw [ifT w0]
    rcases hap with ⟨e, e11, e8⟩ | ⟨B', Vl', e11, e8, ho, hl⟩
    · refine hdo ?_
      simp only [e11, e8, agrees_eq h, sl_row0, sl_rowS, toInt_int, toBool_bool, decide_true, cond_true, Int.reduceEq, decide_false, cond_false]
    · refine hch ho ?_
      simp only [e11, e8, agrees_eq ho, hl, sl_row0, sl_rowS, toInt_int, toBool_bool, decide_true, cond_true, Int.reduceEq, decide_false, cond_false]
  rw [ifF w0]
  by_cases w1 : (cl L i 0).toInt = 1
  · rw [ifT w1]
    rcases hap with ⟨e, e11, e8⟩ | ⟨B', Vl', e11, e8, ho, hl⟩
    · refine hdo ?_
      simp only [e11, e8, agrees_eq h, sl_row0, sl_rowS, toInt_int, toBool_bool, decide_true, cond_true, Int.reduceEq, decide_false, cond_false]
    · refine hch ho ?_
      simp only [e11, e8, agrees_eq ho, hl, sl_row0, sl_rowS, toInt_int, toBool_bool, decide_true, cond_true, Int.reduceEq, decide_false, cond_false]
  rw [ifF w1]
  by_cases w2 : (cl L i 0).toInt = 2
  · rw [ifT w2]
    rcases hap with ⟨e, e11, e8⟩ | ⟨B', Vl', e11, e8, ho, hl⟩
    · refine hdo ?_
      simp only [e11, e8, agrees_eq h, sl_row0, sl_rowS, toInt_int, toBool_bool, decide_true, cond_true, Int.reduceEq, decide_false, cond_false]
    · refine hch ho ?_
      simp only [e11, e8, agrees_eq ho, hl, sl_row0, sl_rowS, toInt_int, toBool_bool, decide_true, cond_true, Int.reduceEq, decide_false, cond_false]
  rw [ifF w2]
  by_cases w3 : (cl L i 0).toInt = 3
  · rw [ifT w3]
    rcases put_eq (x := x) (y := y) h hw with ⟨e, e17, e16⟩ | ⟨B', Vl', e17, e16, ho, hl⟩
    · refine hdo ?_
      simp only [e17, e16, agrees_eq h, sl_row0, sl_rowS, toInt_int, toBool_bool, decide_true, cond_true, Int.reduceEq, decide_false, cond_false]
    · refine hch ho ?_
      simp only [e17, e16, agrees_eq ho, hl, sl_row0, sl_rowS, toInt_int, toBool_bool, decide_true, cond_true, Int.reduceEq, decide_false, cond_false]
  rw [ifF w3]
  by_cases w4 : (cl L i 0).toInt = 4
  · rw [ifT w4]
    obtain ⟨B', nb', e18, ho⟩ := copy_eq h
    refine ⟨B', Df, Vl, nb', x, y, ?_, ho⟩
    rcases hap with ⟨e, e11, e8⟩ | ⟨B2, Vl2, e11, e8, _, _⟩
    · simp only [e11, e18, agrees_eq ho, sl_row0, sl_rowS, toInt_int, toBool_bool, decide_true, cond_true, Int.reduceEq, decide_false, cond_false]
    · simp only [e11, e18, agrees_eq ho, sl_row0, sl_rowS, toInt_int, toBool_bool, decide_true, cond_true, Int.reduceEq, decide_false, cond_false]
  rw [ifF w4]
  obtain ⟨b, e, e10, e7, _⟩ := allowed_eq (x := x) (y := y) h (cl L i 1) (cl L i 2) (cl L i 4) (cl L i 5) (cl L i 6) k lo hi' a
  refine hdo ?_
  simp only [e10, e7, agrees_eq h, sl_row0, sl_rowS, toInt_int, toBool_bool, decide_true, cond_true, Int.reduceEq, decide_false, cond_false]
  cases b <;> rfl
theorem acts_loop {L : D} (hL : len L ≤ 60) (hA : ∀ i : Int, 0 ≤ i → i < len L → Act L i) : ∀ (k i : Nat) (B Df Vl : D) (nb x y : Bool), i + k = len L → Ok B Df Vl nb → f19_1 L (.int i) B (.bool nb) Df (.bool x) Vl (.bool y) = .row [.int 1, .bool true]
  | 0, i, B, Df, Vl, nb, x, y, hi, h => by rw [e19_1, ifF (by omega), known_eq, ifT (by rfl)]
  | k + 1, i, B, Df, Vl, nb, x, y, hi, h => by
    rcases step_eq (x := x) (y := y) h i (show i < len L by omega) hL (hA i (by omega) (by omega)) with e | ⟨B', Df', Vl', nb', x', y', e, h'⟩
    · exact e
    · rw [e]
      exact acts_loop hL hA k (i + 1) B' Df' Vl' nb' x' y' (by omega) h'
/-- CounterPlays in plain data -/
theorem plays (v L : D) (hA : ∀ i : Int, 0 ≤ i → i < len L → Act L i) : f19_0 v L = .row [.int 1, .bool true] := by
  have H1 := known_eq
  obtain ⟨b, H0, hb⟩ := few_eq v
  rw [e19_0]
  simp only [H0, H1, sl_row0, sl_rowS, toInt_int, toBool_bool, decide_true, cond_true]
  cases b with
  | false => rw [cond_false]
  | true =>
  rw [cond_true]
  by_cases q : 60 < (len L : Int)
  · rw [ifT q]
  rw [ifF q]
  rcases new_eq v with ⟨H4, H5⟩ | ⟨B, Df, Vl, nb, x, y, H4, H5, hM, hBl, hv4⟩
  · simp only [H4, H5, sl_row0, sl_rowS, toInt_int, toBool_bool, decide_true, cond_true, Int.reduceEq, decide_false, cond_false]
  · simp only [H4, H5, sl_row0, sl_rowS, toInt_int, toBool_bool, decide_true, cond_true, Int.reduceEq, decide_false, cond_false]
    exact acts_loop (by omega) hA (len L) 0 B Df Vl nb x y (by omega) (hM.toOk hv4)
end
end Go.CP
