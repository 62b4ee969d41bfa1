/- What is proved: what the plain functions over data say, whose trees the text before writes out: the law CounterReaches answers true. Conditions: those that each theorem states. -/
import Derived.Test.YthhmhljmamjgnaaCounterReachesTree
set_option linter.unusedVariables false
set_option linter.unusedSectionVars false
namespace Go.AE

/-! WHAT A PRINTED PROGRAM DOES, STEP BY STEP -/
section
variable [While]
/-- the values of the unknowns at a place, with the named functions of a program -/
def atV (Ts : List (List (Tr Plf))) (xs : List D) : Val := valD (gAll Ts) xs
/-- what is left after a turn -/
def fin (Ts : List (List (Tr Plf))) (k : Nat) (V : Val) : Plf → D
  | .stuck => .row []
  | .done s cs => .row (.int (s + 1 : Nat) :: cs.map (evalD V))
  | .next j θ => gAll Ts k (.row (.int j :: θ.map (evalD V)))
def finT (Ts : List (List (Tr Plf))) (k : Nat) (V : Val) (t : Tr Plf) : D := fin Ts k V (t.get V)
theorem g_eq {Ts : List (List (Tr Plf))} (h : tabsLt 0 Ts = true) {k p : Nat} {T : List (Tr Plf)} {t : Tr Plf} {xs : List D} (hk : Ts[k]? = some T) (hp : T[p]? = some t) :
    gAll Ts k (.row (.int (p : Nat) :: xs)) = finT Ts k (atV Ts xs) t := by
  have hd : dstep T (gAll Ts) (.row (.int (p : Nat) :: xs)) = dlStep (atV Ts xs) (t.get (atV Ts xs)) := by
    show (match T[p]? with | some t => dlStep _ (t.get _) | none => none) = _
    rw [hp]
    rfl
  unfold finT fin
  split
  · rename_i e
    rw [e] at hd
    rw [gAll_eq h hk]
    rcases whileD_or (dstep T (gAll Ts)) (.row (.int (p : Nat) :: xs)) with q | ⟨n, q⟩
    · exact q
    · cases n with
      | zero => cases q
      | succ n =>
        simp only [runW, hd] at q
        cases q
  · rename_i e
    rw [e] at hd
    rw [gAll_eq h hk]
    exact whileD_done hd
  · rename_i e
    rw [e] at hd
    rw [gAll_eq h hk, whileD_next hd, ← gAll_eq h hk]
theorem finT_split {Ts : List (List (Tr Plf))} {k : Nat} {V : Val} {e : SB} {a b : Tr Plf} : finT Ts k V (.split e a b) = if evalB V e = true then finT Ts k V a else finT Ts k V b := by
  unfold finT
  rw [show (Tr.split e a b).get V = match evalB V e with | true => a.get V | false => b.get V from rfl]
  cases evalB V e <;> rfl
theorem finT_leaf {Ts : List (List (Tr Plf))} {k : Nat} {V : Val} {l : Plf} : finT Ts k V (.leaf l) = fin Ts k V l := rfl
theorem fin_stuck {Ts : List (List (Tr Plf))} {k : Nat} {V : Val} : fin Ts k V .stuck = .row [] := rfl
theorem fin_done {Ts : List (List (Tr Plf))} {k s : Nat} {V : Val} {cs : List SE} : fin Ts k V (.done s cs) = .row (.int (s + 1 : Nat) :: cs.map (evalD V)) := rfl
theorem fin_next {Ts : List (List (Tr Plf))} {k j : Nat} {V : Val} {θ : List SE} : fin Ts k V (.next j θ) = gAll Ts k (.row (.int j :: θ.map (evalD V))) := rfl
end
/-- whether x is below y, as the trees ask it -/
theorem lss_iff {V : Val} {a b : SE} : evalB V (.lss a b) = true ↔ (evalD V a).toInt < (evalD V b).toInt := by
  show decide _ = true ↔ _
  rw [decide_eq_true_eq]
theorem eql_iff {V : Val} {a b : SE} : evalB V (.eql a b) = true ↔ (evalD V a).toInt = (evalD V b).toInt := by
  show ((_ : Int) == _) = true ↔ _
  rw [beq_iff_eq]
theorem wrap_i64 {a : Int} (h : -9223372036854775808 ≤ a) (h' : a < 9223372036854775808) : IntKind.wrap .i64 a = a := by
  show (if (true && decide (a % (2 ^ 64 : Int) ≥ 2 ^ 63)) = true then a % (2 ^ 64 : Int) - 2 ^ 64 else a % (2 ^ 64 : Int)) = a
  split
  · rename_i q
    simp only [Bool.true_and, decide_eq_true_eq] at q
    omega
  · rename_i q
    simp only [Bool.true_and, decide_eq_true_eq] at q
    omega
theorem ev_add {V : Val} {a b : SE} (h : -9223372036854775808 ≤ (evalD V a).toInt + (evalD V b).toInt) (h' : (evalD V a).toInt + (evalD V b).toInt < 9223372036854775808) :
    evalD V (.arith .add .i64 a b) = .int ((evalD V a).toInt + (evalD V b).toInt) := by
  show D.int (IntKind.wrap .i64 _) = _
  rw [wrap_i64 h h']
theorem ev_sub {V : Val} {a b : SE} (h : -9223372036854775808 ≤ (evalD V a).toInt - (evalD V b).toInt) (h' : (evalD V a).toInt - (evalD V b).toInt < 9223372036854775808) :
    evalD V (.arith .sub .i64 a b) = .int ((evalD V a).toInt - (evalD V b).toInt) := by
  show D.int (IntKind.wrap .i64 _) = _
  rw [wrap_i64 h h']
end Go.AE
namespace Go.AE
/-! WORDS FOR PLAIN DATA -/
def len (d : D) : Nat := d.rows.length
def slen (d : D) : Nat := d.toStr.data.toList.length
def cl (a : D) (i : Int) (j : Nat) : D := (a.rows.getD i.toNat default).cells.getD j default
def sl (a : D) (j : Nat) : D := a.cells.getD j default
def nilD : D := .slc true []
def emptyD : D := .slc false []
def ad (a r : D) : D := .slc false (a.rows ++ [r])
def upd (a : D) (i : Int) (j : Nat) (x : D) : D := .slc a.isNil (a.rows.modify i.toNat fun r => .row (r.cells.set j x))
def rp (n : Int) (r : D) : D := .slc false (List.replicate n.toNat r)
def ct (a b : D) : D := .slc (a.isNil && b.rows.isEmpty) (a.rows ++ b.rows)
def sb (a : D) (lo hi : Int) : D := .slc a.isNil ((a.rows.drop lo.toNat).take (hi.toNat - lo.toNat))
def ni (a : D) (b : Bool) : D := .slc b a.rows
def strD (l b : Nat) : D := .str ⟨(unpackL l b).toArray⟩
def sCat (a b : D) : D := .str (a.toStr ++ b.toStr)
def sSub (a : D) (lo hi : Int) : D := .str (a.toStr.extract lo.toNat hi.toNat)
def sAt (a : D) (i : Int) : Int := ((a.toStr.data.toList[i.toNat]?).getD 0).toNat
def eqC (a : D) (l b : Nat) : Bool := strEq a.toStr.data.toList.length (packL a.toStr.data.toList) l b
def ari (op : BinOp) (k : IntKind) (x y : Int) : Int := match intBin op k x y with
  | some (.int _ n) => n
  | _ => 0
theorem ifT {α : Type} {p : Prop} [Decidable p] {a b : α} (h : p) : cond (decide p) a b = a := by rw [decide_eq_true h]; rfl
theorem ifF {α : Type} {p : Prop} [Decidable p] {a b : α} (h : ¬ p) : cond (decide p) a b = b := by rw [decide_eq_false h]; rfl
theorem cT {α : Type} {c : Bool} {a b : α} (h : c = true) : cond c a b = a := by rw [h]; rfl
theorem cF {α : Type} {c : Bool} {a b : α} (h : c = false) : cond c a b = b := by rw [h]; rfl
section
variable [While]
def walkT (Ts : List (List (Tr Plf))) (k : Nat) (V : Val) : Tr Plf → D
  | .leaf l => fin Ts k V l
  | .split e a b => cond (evalB V e) (walkT Ts k V a) (walkT Ts k V b)
theorem finT_walk {Ts : List (List (Tr Plf))} {k : Nat} {V : Val} : ∀ t : Tr Plf, finT Ts k V t = walkT Ts k V t
  | .leaf l => rfl
  | .split e a b => by
    rw [finT_split, finT_walk a, finT_walk b, walkT]
    cases evalB V e <;> rfl
theorem g_walk {Ts : List (List (Tr Plf))} (h : tabsLt 0 Ts = true) {k p : Nat} {T : List (Tr Plf)} {t : Tr Plf} {xs : List D} (hk : Ts[k]? = some T) (hp : T[p]? = some t) :
    gAll Ts k (.row (.int (p : Nat) :: xs)) = walkT Ts k (atV Ts xs) t := (g_eq h hk hp).trans (finT_walk t)
theorem cg {Ts : List (List (Tr Plf))} {k : Nat} {V : Val} {e : SB} {a b : Tr Plf} {c : Bool} {x y : D} (h : evalB V e = c) (ha : walkT Ts k V a = x) (hb : walkT Ts k V b = y) : walkT Ts k V (.split e a b) = cond c x y := by
  rw [walkT, h, ha, hb]
end
theorem lE {V : Val} {a b : SE} {x y : Int} (h : (evalD V a).toInt = x) (h' : (evalD V b).toInt = y) : evalB V (.lss a b) = decide (x < y) := by rw [← h, ← h']; rfl
theorem qE {V : Val} {a b : SE} {x y : Int} (h : (evalD V a).toInt = x) (h' : (evalD V b).toInt = y) : evalB V (.eql a b) = decide (x = y) := by rw [← h, ← h']; rfl
theorem aE {V : Val} {a b : SE} {x y : Bool} (h : evalB V a = x) (h' : evalB V b = y) : evalB V (.and a b) = (x && y) := by rw [← h, ← h']; rfl
theorem nE {V : Val} {a : SE} {x : Bool} (h : evalB V a = x) : evalB V (.neg a) = (!x) := by rw [← h]; rfl
end Go.AE
namespace Go.AE
/-! reading what was written -/
/-- every row has n cells -/
def Wd (a : D) (n : Nat) : Prop := ∀ r ∈ a.rows, ∃ cs, r = .row cs ∧ cs.length = n
theorem len_upd {a x : D} {i : Int} {j : Nat} : len (upd a i j x) = len a := by
  show (a.rows.modify _ _).length = _
  simp [len]
theorem len_ad {a r : D} : len (ad a r) = len a + 1 := by
  show (a.rows ++ [r]).length = _
  simp [len]
theorem len_rp {n : Int} {r : D} : len (rp n r) = n.toNat := by
  show (List.replicate _ _).length = _
  simp
theorem len_nilD : len nilD = 0 := rfl
theorem len_emptyD : len emptyD = 0 := rfl
theorem len_ct {a b : D} : len (ct a b) = len a + len b := by
  show (a.rows ++ b.rows).length = _
  simp [len]
theorem len_ni {a : D} {b : Bool} : len (ni a b) = len a := rfl
theorem len_sb {a : D} {lo hi : Int} (h : lo.toNat ≤ hi.toNat) (h' : hi.toNat ≤ len a) : len (sb a lo hi) = hi.toNat - lo.toNat := by
  show ((a.rows.drop _).take _).length = _
  have : hi.toNat ≤ a.rows.length := h'
  simp
  omega
theorem sl_row0 {x : D} {l : List D} : sl (.row (x :: l)) 0 = x := rfl
theorem sl_rowS {x : D} {l : List D} {n : Nat} : sl (.row (x :: l)) (n + 1) = sl (.row l) n := rfl
theorem toInt_int {n : Int} : (D.int n).toInt = n := rfl
theorem toBool_bool {b : Bool} : (D.bool b).toBool = b := rfl
theorem wd_nilD {n : Nat} : Wd nilD n := fun r hr => (by cases hr)
theorem wd_emptyD {n : Nat} : Wd emptyD n := fun r hr => (by cases hr)
theorem wd_ad {a : D} {cs : List D} {n : Nat} (h : Wd a n) (hc : cs.length = n) : Wd (ad a (.row cs)) n := by
  intro r hr
  have hr : r ∈ a.rows ++ [.row cs] := hr
  rcases List.mem_append.1 hr with q | q
  · exact h r q
  · exact ⟨cs, List.mem_singleton.1 q, hc⟩
theorem wd_rp {m : Int} {cs : List D} {n : Nat} (hc : cs.length = n) : Wd (rp m (.row cs)) n := fun r hr => ⟨cs, List.eq_of_mem_replicate hr, hc⟩
theorem wd_upd {a x : D} {i : Int} {j n : Nat} (h : Wd a n) : Wd (upd a i j x) n := by
  intro r hr
  have hr' : r ∈ a.rows.modify i.toNat fun r => .row (r.cells.set j x) := hr
  obtain ⟨k, hk, e⟩ := List.getElem_of_mem hr'
  rw [List.getElem_modify] at e
  have hk' : k < a.rows.length := by simpa using hk
  obtain ⟨cs, hc, hn⟩ := h _ (List.getElem_mem hk')
  split at e
  · rw [hc] at e
    exact ⟨_, e.symm, by simp [D.cells, hn]⟩
  · exact ⟨cs, by rw [← e]; exact hc, hn⟩
theorem wd_ni {a : D} {b : Bool} {n : Nat} (h : Wd a n) : Wd (ni a b) n := h
theorem wd_ct {a b : D} {n : Nat} (h : Wd a n) (h' : Wd b n) : Wd (ct a b) n := fun r hr => (List.mem_append.1 hr).elim (h r) (h' r)
theorem cl_upd {a x : D} {i k : Int} {j j' n : Nat} (h : Wd a n) (hj : j < n) (hi : 0 ≤ i) (hi' : i < len a) (hk : 0 ≤ k) : cl (upd a i j x) k j' = if k = i ∧ j' = j then x else cl a k j' := by
  have hi2 : i.toNat < a.rows.length := by have : len a = a.rows.length := rfl; omega
  show ((a.rows.modify i.toNat fun r => D.row (r.cells.set j x))[k.toNat]?.getD default).cells.getD j' default = _
  rw [List.getElem?_modify]
  by_cases q : k = i
  · subst q
    obtain ⟨cs, hc, hn⟩ := h _ (List.getElem_mem hi2)
    rw [List.getElem?_eq_getElem hi2]
    show ((if k.toNat = k.toNat then D.row ((a.rows[k.toNat]).cells.set j x) else a.rows[k.toNat]).cells[j']?).getD default = _
    rw [if_pos rfl, hc]
    show ((cs.set j x)[j']?).getD default = _
    rw [List.getElem?_set]
    by_cases q' : j = j'
    · subst q'
      rw [if_pos rfl, if_pos (by omega), if_pos ⟨rfl, rfl⟩]
      rfl
    · rw [if_neg q', if_neg (fun c => q' c.2.symm)]
      show _ = (a.rows[k.toNat]?.getD default).cells.getD j' default
      rw [List.getElem?_eq_getElem hi2, Option.getD_some, hc]
      rfl
  · have q2 : ¬ i.toNat = k.toNat := by omega
    rw [if_neg (fun c => q c.1)]
    simp [q2, cl]
theorem cl_upd_same {a x : D} {i : Int} {j n : Nat} (h : Wd a n) (hj : j < n) (hi : 0 ≤ i) (hi' : i < len a) : cl (upd a i j x) i j = x := by rw [cl_upd h hj hi hi' hi, if_pos ⟨rfl, rfl⟩]
theorem cl_upd_ne {a x : D} {i k : Int} {j j' n : Nat} (h : Wd a n) (hj : j < n) (hi : 0 ≤ i) (hi' : i < len a) (hk : 0 ≤ k) (hn : k ≠ i) : cl (upd a i j x) k j' = cl a k j' := by rw [cl_upd h hj hi hi' hk, if_neg (fun c => hn c.1)]
theorem cl_ad {a r : D} {k : Int} {j : Nat} (hk : 0 ≤ k) : cl (ad a r) k j = if k = len a then sl r j else cl a k j := by
  have hl : len a = a.rows.length := rfl
  show ((a.rows ++ [r])[k.toNat]?.getD default).cells.getD j default = _
  by_cases q : k.toNat < a.rows.length
  · rw [List.getElem?_append_left q, if_neg (by omega)]
    rfl
  · by_cases q' : k = len a
    · subst q'
      rw [if_pos rfl]
      have : ((len a : Int)).toNat = a.rows.length := by omega
      rw [this]
      simp [sl]
    · rw [if_neg q', List.getElem?_eq_none (by simp; omega)]
      show _ = (a.rows[k.toNat]?.getD default).cells.getD j default
      rw [List.getElem?_eq_none (by omega)]
theorem cl_rp {n k : Int} {r : D} {j : Nat} (hk : 0 ≤ k) (hk' : k < n) : cl (rp n r) k j = sl r j := by
  show ((List.replicate n.toNat r)[k.toNat]?.getD default).cells.getD j default = _
  rw [List.getElem?_replicate, if_pos (by omega)]
  rfl
theorem cl_ni {a : D} {b : Bool} {k : Int} {j : Nat} : cl (ni a b) k j = cl a k j := rfl
end Go.AE
namespace Go.AE
/-- a law's arguments -/
theorem law_can {P : Program} {ts : List TypeId} {xs : List D} {ks : List Kd} (h : LawArgs P ts xs) (hk : allKinds (Env.of P) ts = some ks) : ks.length = xs.length ∧ Can ks xs := by
  obtain ⟨ks', cs, M, e, hd, hc⟩ := h
  rw [hk] at e
  cases e
  exact ⟨hd.len.2, hc⟩
end Go.AE
set_option maxRecDepth 100000
namespace Go.CR
open Go.AE
theorem lt : tabsLt 0 ts = true := by decide
section
variable [While]
/-! 0: phrasebook/phrasebooklaw30.known -/
def f0_0 : D := gAll ts 0 (.row [.int (0 : Nat)])
/-! 1: slices.IndexFunc[[]phrasebook/api.Step,phrasebook/api.Step] -/
def f1_0 (v0 : D) : D := gAll ts 1 (.row [.int (0 : Nat), v0])
def f1_1 (v0 v1 : D) : D := gAll ts 1 (.row [.int (1 : Nat), v0, v1])
/-! 2: phrasebook/counter.search -/
def f2_0 (v0 v1 : D) : D := gAll ts 2 (.row [.int (0 : Nat), v0, v1])
def f2_1 (v0 v1 v2 v3 v4 v5 : D) : D := gAll ts 2 (.row [.int (1 : Nat), v0, v1, v2, v3, v4, v5])
def f2_2 (v0 v1 v2 v3 v4 v5 v6 v7 v8 v9 : D) : D := gAll ts 2 (.row [.int (2 : Nat), v0, v1, v2, v3, v4, v5, v6, v7, v8, v9])
def f2_3 (v0 v1 v2 v3 v4 v5 v6 v7 v8 v9 v10 v11 : D) : D := gAll ts 2 (.row [.int (3 : Nat), v0, v1, v2, v3, v4, v5, v6, v7, v8, v9, v10, v11])
/-! 3: phrasebook/counter.Reach -/
def f3_0 (v0 v1 : D) : D := gAll ts 3 (.row [.int (0 : Nat), v0, v1])
def f3_1 (v0 v1 v2 v3 v4 v5 v6 : D) : D := gAll ts 3 (.row [.int (1 : Nat), v0, v1, v2, v3, v4, v5, v6])
/-! 4: phrasebook/phrasebookref30.valid -/
def f4_0 (v0 v1 : D) : D := gAll ts 4 (.row [.int (0 : Nat), v0, v1])
def f4_1 (v0 v1 v2 : D) : D := gAll ts 4 (.row [.int (1 : Nat), v0, v1, v2])
/-! 5: phrasebook/phrasebookref30.distances -/
def f5_0 (v0 v1 : D) : D := gAll ts 5 (.row [.int (0 : Nat), v0, v1])
def f5_1 (v0 v1 v2 v3 : D) : D := gAll ts 5 (.row [.int (1 : Nat), v0, v1, v2, v3])
def f5_2 (v0 v1 v2 v3 v4 : D) : D := gAll ts 5 (.row [.int (2 : Nat), v0, v1, v2, v3, v4])
def f5_3 (v0 v1 v2 v3 v4 v5 : D) : D := gAll ts 5 (.row [.int (3 : Nat), v0, v1, v2, v3, v4, v5])
def f5_4 (v0 v1 v2 v3 v4 v5 v6 : D) : D := gAll ts 5 (.row [.int (4 : Nat), v0, v1, v2, v3, v4, v5, v6])
/-! 6: phrasebook/phrasebookref30.Reach -/
def f6_0 (v0 v1 : D) : D := gAll ts 6 (.row [.int (0 : Nat), v0, v1])
def f6_1 (v0 v1 v2 v3 v4 : D) : D := gAll ts 6 (.row [.int (1 : Nat), v0, v1, v2, v3, v4])
/-! 7: phrasebook/phrasebookref30.leads -/
def f7_0 (v0 v1 v2 v3 : D) : D := gAll ts 7 (.row [.int (0 : Nat), v0, v1, v2, v3])
def f7_1 (v0 v1 v2 v3 v4 v5 : D) : D := gAll ts 7 (.row [.int (1 : Nat), v0, v1, v2, v3, v4, v5])
def f7_2 (v0 v1 v2 v3 v4 v5 v6 v7 v8 : D) : D := gAll ts 7 (.row [.int (2 : Nat), v0, v1, v2, v3, v4, v5, v6, v7, v8])
def f7_3 (v0 v1 v2 v3 v4 v5 v6 v7 v8 v9 : D) : D := gAll ts 7 (.row [.int (3 : Nat), v0, v1, v2, v3, v4, v5, v6, v7, v8, v9])
/-! 8: phrasebook/phrasebookref30.Path -/
def f8_0 (v0 v1 v2 : D) : D := gAll ts 8 (.row [.int (0 : Nat), v0, v1, v2])
def f8_1 (v0 v1 v2 v3 v4 v5 v6 : D) : D := gAll ts 8 (.row [.int (1 : Nat), v0, v1, v2, v3, v4, v5, v6])
def f8_2 (v0 v1 v2 v3 v4 v5 v6 v7 : D) : D := gAll ts 8 (.row [.int (2 : Nat), v0, v1, v2, v3, v4, v5, v6, v7])
/-! 9: phrasebook/phrasebooklaw30.same -/
def f9_0 (v0 v1 v2 v3 : D) : D := gAll ts 9 (.row [.int (0 : Nat), v0, v1, v2, v3])
def f9_1 (v0 v1 v2 v3 v4 : D) : D := gAll ts 9 (.row [.int (1 : Nat), v0, v1, v2, v3, v4])
/-! 10: phrasebook/phrasebooklaw30.same -/
def f10_0 (v0 v1 v2 : D) : D := gAll ts 10 (.row [.int (0 : Nat), v0, v1, v2])
def f10_1 (v0 v1 v2 v3 : D) : D := gAll ts 10 (.row [.int (1 : Nat), v0, v1, v2, v3])
/-! 11: phrasebook/phrasebooklaw30.CounterReaches -/
def f11_0 (v0 v1 v2 : D) : D := gAll ts 11 (.row [.int (0 : Nat), v0, v1, v2])
/-! 0: phrasebook/phrasebooklaw30.known -/
theorem e0_0 : f0_0 =
  .row [.int 1] :=
  (g_walk lt (T := t0) (t := t0p0) rfl rfl).trans rfl
/-! 1: slices.IndexFunc[[]phrasebook/api.Step,phrasebook/api.Step] -/
theorem e1_0 (v0 : D) : f1_0 v0 =
  f1_1 v0 (.int 0) :=
  (g_walk lt (T := t1) (t := t1p0) rfl rfl).trans rfl
theorem e1_1 (v0 : D) (v1 : Int) : f1_1 v0 (.int v1) =
  cond (decide (v1 < (len v0 : Int))) (
   cond (decide (v1 < 0)) (
    .row []) (
    cond (decide ((cl v0 v1 8).toInt < (-1000))) (
     .row [.int 1, (.int v1)]) (
     cond (decide (1000 < (cl v0 v1 8).toInt)) (
      .row [.int 1, (.int v1)]) (
      f1_1 v0 (.int (IntKind.wrap .i64 (v1 + 1))))))) (
   .row [.int 1, (.int (-1))]) :=
  (g_walk lt (T := t1) (t := t1p1) rfl rfl).trans (cg (lE rfl rfl) (cg (lE rfl rfl) rfl (cg (lE rfl rfl) rfl (cg (lE rfl rfl) rfl rfl))) rfl)
/-! 2: phrasebook/counter.search -/
theorem e2_0 (v0 : Int) (v1 : D) : f2_0 (.int v0) v1 =
  cond (decide (v0 < 1)) (
   .row [.int 1, nilD, (.bool true), nilD, (.bool true), (.int 2)]) (
   cond (decide (1000 < v0)) (
    .row [.int 1, nilD, (.bool true), nilD, (.bool true), (.int 2)]) (
    cond (decide ((sl (f1_0 v1) 0).toInt = 1)) (
     cond (decide ((sl (f1_0 v1) 1).toInt < 0)) (
      cond (decide ((IntKind.wrap .i64 (v0 + 1)) < 0)) (
       .row []) (
       cond (decide ((IntKind.wrap .i64 (v0 + 1)) < 1048577)) (
        cond (decide (0 < (len (rp (IntKind.wrap .i64 (v0 + 1)) (.row [(.bool false)])) : Int))) (
         f2_1 (.int v0) v1 (rp (IntKind.wrap .i64 (v0 + 1)) (.row [nilD])) (upd (rp (IntKind.wrap .i64 (v0 + 1)) (.row [(.bool false)])) 0 0 (.bool true)) (ad emptyD (.row [(.int 0)])) (.bool false)) (
         .row [])) (
        .row []))) (
      .row [.int 1, nilD, (.bool true), nilD, (.bool true), (.int 2)])) (
     .row []))) :=
  (g_walk lt (T := t2) (t := t2p0) rfl rfl).trans (cg (lE rfl rfl) rfl (cg (lE rfl rfl) rfl (cg (qE rfl rfl) (cg (lE rfl rfl) (cg (lE rfl rfl) rfl (cg (lE rfl rfl) (cg (lE rfl rfl) rfl rfl) rfl)) rfl) rfl)))
theorem e2_1 (v0 : Int) (v1 : D) (v2 : D) (v3 : D) (v4 : D) (v5 : Bool) : f2_1 (.int v0) v1 v2 v3 v4 (.bool v5) =
  cond (decide (0 < (len v4 : Int))) (
   f2_2 (.int v0) v1 v2 v3 nilD (.bool true) v4 (.bool v5) (.int (len v4 : Int)) (.int 0)) (
   .row [.int 1, v2, (.bool false), v3, (.bool false), (.int 0)]) :=
  (g_walk lt (T := t2) (t := t2p1) rfl rfl).trans (cg (lE rfl rfl) rfl rfl)
theorem e2_2 (v0 : Int) (v1 : D) (v2 : D) (v3 : D) (v4 : D) (v5 : Bool) (v6 : D) (v7 : Bool) (v8 : Int) (v9 : Int) : f2_2 (.int v0) v1 v2 v3 v4 (.bool v5) v6 (.bool v7) (.int v8) (.int v9) =
  cond (decide (v9 < v8)) (
   cond (decide (v9 < 0)) (
    .row []) (
    cond (decide (v9 < (len v6 : Int))) (
     f2_3 (.int v0) v1 v2 v3 v4 (.bool v5) (cl v6 v9 0) v6 (.bool v7) (.int v8) (.int v9) (.int 0)) (
     .row []))) (
   f2_1 (.int v0) v1 v2 v3 v4 (.bool v5)) :=
  (g_walk lt (T := t2) (t := t2p2) rfl rfl).trans (cg (lE rfl rfl) (cg (lE rfl rfl) rfl (cg (lE rfl rfl) rfl rfl)) rfl)
theorem e2_3 (v0 : Int) (v1 : D) (v2 : D) (v3 : D) (v4 : D) (v5 : Bool) (v6 : Int) (v7 : D) (v8 : Bool) (v9 : Int) (v10 : Int) (v11 : Int) : f2_3 (.int v0) v1 v2 v3 v4 (.bool v5) (.int v6) v7 (.bool v8) (.int v9) (.int v10) (.int v11) =
  cond (decide (v11 < (len v1 : Int))) (
   cond (decide (v11 < 0)) (
    .row []) (
    cond (decide (v6 < (cl v1 v11 6).toInt)) (
     f2_3 (.int v0) v1 v2 v3 v4 (.bool v5) (.int v6) v7 (.bool v8) (.int v9) (.int v10) (.int (IntKind.wrap .i64 (v11 + 1)))) (
     cond (decide ((cl v1 v11 7).toInt < v6)) (
      f2_3 (.int v0) v1 v2 v3 v4 (.bool v5) (.int v6) v7 (.bool v8) (.int v9) (.int v10) (.int (IntKind.wrap .i64 (v11 + 1)))) (
      cond (decide ((cl v1 v11 8).toInt < (IntKind.wrap .i64 (0 - v6)))) (
       f2_3 (.int v0) v1 v2 v3 v4 (.bool v5) (.int v6) v7 (.bool v8) (.int v9) (.int v10) (.int (IntKind.wrap .i64 (v11 + 1)))) (
       cond (decide ((IntKind.wrap .i64 (v0 - v6)) < (cl v1 v11 8).toInt)) (
        f2_3 (.int v0) v1 v2 v3 v4 (.bool v5) (.int v6) v7 (.bool v8) (.int v9) (.int v10) (.int (IntKind.wrap .i64 (v11 + 1)))) (
        cond (decide ((IntKind.wrap .i64 (v6 + (cl v1 v11 8).toInt)) < 0)) (
         .row []) (
         cond (decide ((IntKind.wrap .i64 (v6 + (cl v1 v11 8).toInt)) < (len v3 : Int))) (
          cond ((cl v3 (IntKind.wrap .i64 (v6 + (cl v1 v11 8).toInt)) 0).toBool) (
           f2_3 (.int v0) v1 v2 v3 v4 (.bool v5) (.int v6) v7 (.bool v8) (.int v9) (.int v10) (.int (IntKind.wrap .i64 (v11 + 1)))) (
           cond (decide (v6 < 0)) (
            .row []) (
            cond (decide (v6 < (len v2 : Int))) (
             cond ((cl v2 v6 0).isNil) (
              cond (decide ((IntKind.wrap .i64 (v6 + (cl v1 v11 8).toInt)) < (len v2 : Int))) (
               cond (decide ((len v4 : Int) < 1048576)) (
                f2_3 (.int v0) v1 (upd v2 (IntKind.wrap .i64 (v6 + (cl v1 v11 8).toInt)) 0 (ad emptyD (.row [(.int v11)]))) (upd v3 (IntKind.wrap .i64 (v6 + (cl v1 v11 8).toInt)) 0 (.bool true)) (ad v4 (.row [(.int (IntKind.wrap .i64 (v6 + (cl v1 v11 8).toInt)))])) (.bool false) (.int v6) v7 (.bool v8) (.int v9) (.int v10) (.int (IntKind.wrap .i64 (v11 + 1)))) (
                .row [])) (
               .row [])) (
              cond (decide ((len (cl v2 v6 0) : Int) < 1048576)) (
               cond (decide ((len (ct emptyD (cl v2 v6 0)) : Int) < 1048576)) (
                cond (decide ((IntKind.wrap .i64 (v6 + (cl v1 v11 8).toInt)) < (len v2 : Int))) (
                 cond (decide ((len v4 : Int) < 1048576)) (
                  f2_3 (.int v0) v1 (upd v2 (IntKind.wrap .i64 (v6 + (cl v1 v11 8).toInt)) 0 (ni (ad (ct emptyD (cl v2 v6 0)) (.row [(.int v11)])) false)) (upd v3 (IntKind.wrap .i64 (v6 + (cl v1 v11 8).toInt)) 0 (.bool true)) (ad v4 (.row [(.int (IntKind.wrap .i64 (v6 + (cl v1 v11 8).toInt)))])) (.bool false) (.int v6) v7 (.bool v8) (.int v9) (.int v10) (.int (IntKind.wrap .i64 (v11 + 1)))) (
                  .row [])) (
                 .row [])) (
                .row [])) (
               .row []))) (
             .row [])))) (
          .row [])))))))) (
   f2_2 (.int v0) v1 v2 v3 v4 (.bool v5) v7 (.bool v8) (.int v9) (.int (IntKind.wrap .i64 (v10 + 1)))) :=
  (g_walk lt (T := t2) (t := t2p3) rfl rfl).trans (cg (lE rfl rfl) (cg (lE rfl rfl) rfl (cg (lE rfl rfl) rfl (cg (lE rfl rfl) rfl (cg (lE rfl rfl) rfl (cg (lE rfl rfl) rfl (cg (lE rfl rfl) rfl (cg (lE rfl rfl) (cg rfl rfl (cg (lE rfl rfl) rfl (cg (lE rfl rfl) (cg rfl (cg (lE rfl rfl) (cg (lE rfl rfl) rfl rfl) rfl) (cg (lE rfl rfl) (cg (lE rfl rfl) (cg (lE rfl rfl) (cg (lE rfl rfl) rfl rfl) rfl) rfl) rfl)) rfl))) rfl))))))) rfl)
/-! 3: phrasebook/counter.Reach -/
theorem e3_0 (v0 : Int) (v1 : D) : f3_0 (.int v0) v1 =
  cond (decide ((sl (f2_0 (.int v0) v1) 0).toInt = 1)) (
   f3_1 nilD (.bool true) (sl (f2_0 (.int v0) v1) 5) (sl (f2_0 (.int v0) v1) 3) (sl (f2_0 (.int v0) v1) 4) (.int (len (sl (f2_0 (.int v0) v1) 3) : Int)) (.int 0)) (
   .row []) :=
  (g_walk lt (T := t3) (t := t3p0) rfl rfl).trans (cg (qE rfl rfl) rfl rfl)
theorem e3_1 (v0 : D) (v1 : Bool) (v2 : Int) (v3 : D) (v4 : Bool) (v5 : Int) (v6 : Int) : f3_1 v0 (.bool v1) (.int v2) v3 (.bool v4) (.int v5) (.int v6) =
  cond (decide (v6 < v5)) (
   cond (decide (v6 < 0)) (
    .row []) (
    cond (decide (v6 < (len v3 : Int))) (
     cond ((cl v3 v6 0).toBool) (
      cond (decide ((len v0 : Int) < 1048576)) (
       f3_1 (ad v0 (.row [(.int v6)])) (.bool false) (.int v2) v3 (.bool v4) (.int v5) (.int (IntKind.wrap .i64 (v6 + 1)))) (
       .row [])) (
      f3_1 v0 (.bool v1) (.int v2) v3 (.bool v4) (.int v5) (.int (IntKind.wrap .i64 (v6 + 1))))) (
     .row []))) (
   .row [.int 1, v0, (.bool v1), (.int v2)]) :=
  (g_walk lt (T := t3) (t := t3p1) rfl rfl).trans (cg (lE rfl rfl) (cg (lE rfl rfl) rfl (cg (lE rfl rfl) (cg rfl (cg (lE rfl rfl) rfl rfl) rfl) rfl)) rfl)
/-! 4: phrasebook/phrasebookref30.valid -/
theorem e4_0 (v0 : Int) (v1 : D) : f4_0 (.int v0) v1 =
  f4_1 (.int v0) v1 (.int 0) :=
  (g_walk lt (T := t4) (t := t4p0) rfl rfl).trans rfl
theorem e4_1 (v0 : Int) (v1 : D) (v2 : Int) : f4_1 (.int v0) v1 (.int v2) =
  cond (decide (v2 < (len v1 : Int))) (
   cond (decide (v2 < 0)) (
    .row []) (
    cond (decide ((cl v1 v2 8).toInt < (-1000))) (
     .row [.int 1, (.bool false)]) (
     cond (decide (1000 < (cl v1 v2 8).toInt)) (
      .row [.int 1, (.bool false)]) (
      f4_1 (.int v0) v1 (.int (IntKind.wrap .i64 (v2 + 1))))))) (
   cond (decide (v0 < 1)) (
    .row [.int 1, (.bool false)]) (
    .row [.int 1, (.bool (!decide (1000 < v0)))])) :=
  (g_walk lt (T := t4) (t := t4p1) rfl rfl).trans (cg (lE rfl rfl) (cg (lE rfl rfl) rfl (cg (lE rfl rfl) rfl (cg (lE rfl rfl) rfl rfl))) (cg (lE rfl rfl) rfl rfl))
/-! 5: phrasebook/phrasebookref30.distances -/
theorem e5_0 (v0 : Int) (v1 : D) : f5_0 (.int v0) v1 =
  cond (decide ((IntKind.wrap .i64 (v0 + 1)) < 0)) (
   .row []) (
   cond (decide ((IntKind.wrap .i64 (v0 + 1)) < 1048577)) (
    f5_1 (.int v0) v1 (rp (IntKind.wrap .i64 (v0 + 1)) (.row [(.int 0)])) (.int 1)) (
    .row [])) :=
  (g_walk lt (T := t5) (t := t5p0) rfl rfl).trans (cg (lE rfl rfl) rfl (cg (lE rfl rfl) rfl rfl))
theorem e5_1 (v0 : Int) (v1 : D) (v2 : D) (v3 : Int) : f5_1 (.int v0) v1 v2 (.int v3) =
  cond (decide (v0 < v3)) (
   f5_2 (.int v0) v1 v2 (.int 0) (.bool true)) (
   cond (decide (v3 < 0)) (
    .row []) (
    cond (decide (v3 < (len v2 : Int))) (
     f5_1 (.int v0) v1 (upd v2 v3 0 (.int (-1))) (.int (IntKind.wrap .i64 (v3 + 1)))) (
     .row []))) :=
  (g_walk lt (T := t5) (t := t5p1) rfl rfl).trans (cg (lE rfl rfl) rfl (cg (lE rfl rfl) rfl (cg (lE rfl rfl) rfl rfl)))
theorem e5_2 (v0 : Int) (v1 : D) (v2 : D) (v3 : Int) (v4 : Bool) : f5_2 (.int v0) v1 v2 (.int v3) (.bool v4) =
  cond (v4) (
   f5_3 (.int v0) v1 v2 (.int v3) (.bool false) (.int 0)) (
   .row [.int 1, v2]) :=
  (g_walk lt (T := t5) (t := t5p2) rfl rfl).trans (cg rfl rfl rfl)
theorem e5_3 (v0 : Int) (v1 : D) (v2 : D) (v3 : Int) (v4 : Bool) (v5 : Int) : f5_3 (.int v0) v1 v2 (.int v3) (.bool v4) (.int v5) =
  cond (decide (v0 < v5)) (
   f5_2 (.int v0) v1 v2 (.int (IntKind.wrap .i64 (v3 + 1))) (.bool v4)) (
   f5_4 (.int v0) v1 v2 (.int v3) (.bool v4) (.int v5) (.int 0)) :=
  (g_walk lt (T := t5) (t := t5p3) rfl rfl).trans (cg (lE rfl rfl) rfl rfl)
theorem e5_4 (v0 : Int) (v1 : D) (v2 : D) (v3 : Int) (v4 : Bool) (v5 : Int) (v6 : Int) : f5_4 (.int v0) v1 v2 (.int v3) (.bool v4) (.int v5) (.int v6) =
  cond (decide (v6 < (len v1 : Int))) (
   cond (decide (v5 < 0)) (
    .row []) (
    cond (decide (v5 < (len v2 : Int))) (
     cond (decide ((cl v2 v5 0).toInt = v3)) (
      cond (decide (v6 < 0)) (
       .row []) (
       cond (decide (v5 < (cl v1 v6 6).toInt)) (
        f5_4 (.int v0) v1 v2 (.int v3) (.bool v4) (.int v5) (.int (IntKind.wrap .i64 (v6 + 1)))) (
        cond (decide ((cl v1 v6 7).toInt < v5)) (
         f5_4 (.int v0) v1 v2 (.int v3) (.bool v4) (.int v5) (.int (IntKind.wrap .i64 (v6 + 1)))) (
         cond (decide ((cl v1 v6 8).toInt < (-1000))) (
          f5_4 (.int v0) v1 v2 (.int v3) (.bool v4) (.int v5) (.int (IntKind.wrap .i64 (v6 + 1)))) (
          cond (decide (1000 < (cl v1 v6 8).toInt)) (
           f5_4 (.int v0) v1 v2 (.int v3) (.bool v4) (.int v5) (.int (IntKind.wrap .i64 (v6 + 1)))) (
           cond (decide ((IntKind.wrap .i64 (v5 + (cl v1 v6 8).toInt)) < 0)) (
            f5_4 (.int v0) v1 v2 (.int v3) (.bool v4) (.int v5) (.int (IntKind.wrap .i64 (v6 + 1)))) (
            cond (decide (v0 < (IntKind.wrap .i64 (v5 + (cl v1 v6 8).toInt)))) (
             f5_4 (.int v0) v1 v2 (.int v3) (.bool v4) (.int v5) (.int (IntKind.wrap .i64 (v6 + 1)))) (
             cond (decide ((IntKind.wrap .i64 (v5 + (cl v1 v6 8).toInt)) < (len v2 : Int))) (
              cond (decide ((cl v2 (IntKind.wrap .i64 (v5 + (cl v1 v6 8).toInt)) 0).toInt < 0)) (
               f5_4 (.int v0) v1 (upd v2 (IntKind.wrap .i64 (v5 + (cl v1 v6 8).toInt)) 0 (.int (IntKind.wrap .i64 (v3 + 1)))) (.int v3) (.bool true) (.int v5) (.int (IntKind.wrap .i64 (v6 + 1)))) (
               f5_4 (.int v0) v1 v2 (.int v3) (.bool v4) (.int v5) (.int (IntKind.wrap .i64 (v6 + 1))))) (
              .row []))))))))) (
      f5_3 (.int v0) v1 v2 (.int v3) (.bool v4) (.int (IntKind.wrap .i64 (v5 + 1))))) (
     .row []))) (
   f5_3 (.int v0) v1 v2 (.int v3) (.bool v4) (.int (IntKind.wrap .i64 (v5 + 1)))) :=
  (g_walk lt (T := t5) (t := t5p4) rfl rfl).trans (cg (lE rfl rfl) (cg (lE rfl rfl) rfl (cg (lE rfl rfl) (cg (qE rfl rfl) (cg (lE rfl rfl) rfl (cg (lE rfl rfl) rfl (cg (lE rfl rfl) rfl (cg (lE rfl rfl) rfl (cg (lE rfl rfl) rfl (cg (lE rfl rfl) rfl (cg (lE rfl rfl) rfl (cg (lE rfl rfl) (cg (lE rfl rfl) rfl rfl) rfl)))))))) rfl) rfl)) rfl)
/-! 6: phrasebook/phrasebookref30.Reach -/
theorem e6_0 (v0 : Int) (v1 : D) : f6_0 (.int v0) v1 =
  cond (decide ((sl (f4_0 (.int v0) v1) 0).toInt = 1)) (
   cond ((sl (f4_0 (.int v0) v1) 1).toBool) (
    cond (decide ((sl (f5_0 (.int v0) v1) 0).toInt = 1)) (
     f6_1 (.int v0) (sl (f5_0 (.int v0) v1) 1) nilD (.bool true) (.int 0)) (
     .row [])) (
    .row [.int 1, nilD, (.bool true), (.int 2)])) (
   .row []) :=
  (g_walk lt (T := t6) (t := t6p0) rfl rfl).trans (cg (qE rfl rfl) (cg rfl (cg (qE rfl rfl) rfl rfl) rfl) rfl)
theorem e6_1 (v0 : Int) (v1 : D) (v2 : D) (v3 : Bool) (v4 : Int) : f6_1 (.int v0) v1 v2 (.bool v3) (.int v4) =
  cond (decide (v0 < v4)) (
   .row [.int 1, v2, (.bool v3), (.int 0)]) (
   cond (decide (v4 < 0)) (
    .row []) (
    cond (decide (v4 < (len v1 : Int))) (
     cond (decide ((cl v1 v4 0).toInt < 0)) (
      f6_1 (.int v0) v1 v2 (.bool v3) (.int (IntKind.wrap .i64 (v4 + 1)))) (
      cond (decide ((len v2 : Int) < 1048576)) (
       f6_1 (.int v0) v1 (ad v2 (.row [(.int v4)])) (.bool false) (.int (IntKind.wrap .i64 (v4 + 1)))) (
       .row []))) (
     .row []))) :=
  (g_walk lt (T := t6) (t := t6p1) rfl rfl).trans (cg (lE rfl rfl) rfl (cg (lE rfl rfl) rfl (cg (lE rfl rfl) (cg (lE rfl rfl) rfl (cg (lE rfl rfl) rfl rfl)) rfl)))
/-! 7: phrasebook/phrasebookref30.leads -/
theorem e7_0 (v0 : Int) (v1 : D) (v2 : Int) (v3 : Int) : f7_0 (.int v0) v1 (.int v2) (.int v3) =
  cond (decide ((IntKind.wrap .i64 (v0 + 1)) < 0)) (
   .row []) (
   cond (decide ((IntKind.wrap .i64 (v0 + 1)) < 1048577)) (
    cond (decide (v2 < 0)) (
     .row []) (
     cond (decide (v2 < (len (rp (IntKind.wrap .i64 (v0 + 1)) (.row [(.bool false)])) : Int))) (
      f7_1 (.int v0) v1 (.int v3) (ad emptyD (.row [(ni (upd (rp (IntKind.wrap .i64 (v0 + 1)) (.row [(.bool false)])) v2 0 (.bool true)) false)])) (.int 1) nilD) (
      .row []))) (
    .row [])) :=
  (g_walk lt (T := t7) (t := t7p0) rfl rfl).trans (cg (lE rfl rfl) rfl (cg (lE rfl rfl) (cg (lE rfl rfl) rfl (cg (lE rfl rfl) rfl rfl)) rfl))
theorem e7_1 (v0 : Int) (v1 : D) (v2 : Int) (v3 : D) (v4 : Int) (v5 : D) : f7_1 (.int v0) v1 (.int v2) v3 (.int v4) v5 =
  cond (decide (v2 < v4)) (
   .row [.int 1, v3]) (
   cond (decide ((IntKind.wrap .i64 (v0 + 1)) < 0)) (
    .row []) (
    cond (decide ((IntKind.wrap .i64 (v0 + 1)) < 1048577)) (
     f7_2 (.int v0) v1 (.int v2) v3 (.bool false) (.int v4) (rp (IntKind.wrap .i64 (v0 + 1)) (.row [(.bool false)])) (.int 0) nilD) (
     .row []))) :=
  (g_walk lt (T := t7) (t := t7p1) rfl rfl).trans (cg (lE rfl rfl) rfl (cg (lE rfl rfl) rfl (cg (lE rfl rfl) rfl rfl)))
theorem e7_2 (v0 : Int) (v1 : D) (v2 : Int) (v3 : D) (v4 : Bool) (v5 : Int) (v6 : D) (v7 : Int) (v8 : D) : f7_2 (.int v0) v1 (.int v2) v3 (.bool v4) (.int v5) v6 (.int v7) v8 =
  cond (decide (v0 < v7)) (
   cond (decide ((len v3 : Int) < 1048576)) (
    f7_1 (.int v0) v1 (.int v2) (ad v3 (.row [(ni v6 false)])) (.int (IntKind.wrap .i64 (v5 + 1))) nilD) (
    .row [])) (
   f7_3 (.int v0) v1 (.int v2) v3 (.bool v4) (.int v5) v6 (.int v7) (.int 0) nilD) :=
  (g_walk lt (T := t7) (t := t7p2) rfl rfl).trans (cg (lE rfl rfl) (cg (lE rfl rfl) rfl rfl) rfl)
theorem e7_3 (v0 : Int) (v1 : D) (v2 : Int) (v3 : D) (v4 : Bool) (v5 : Int) (v6 : D) (v7 : Int) (v8 : Int) (v9 : D) : f7_3 (.int v0) v1 (.int v2) v3 (.bool v4) (.int v5) v6 (.int v7) (.int v8) v9 =
  cond (decide (v8 < (len v1 : Int))) (
   cond (decide (v8 < 0)) (
    .row []) (
    cond (decide (v7 < (cl v1 v8 6).toInt)) (
     cond (decide (v7 < 0)) (
      .row []) (
      cond (decide (v7 < (len v6 : Int))) (
       cond ((cl v6 v7 0).toBool) (
        f7_3 (.int v0) v1 (.int v2) v3 (.bool v4) (.int v5) (upd v6 v7 0 (.bool true)) (.int v7) (.int (IntKind.wrap .i64 (v8 + 1))) nilD) (
        f7_3 (.int v0) v1 (.int v2) v3 (.bool v4) (.int v5) (upd v6 v7 0 (.bool false)) (.int v7) (.int (IntKind.wrap .i64 (v8 + 1))) nilD)) (
       .row []))) (
     cond (decide ((cl v1 v8 7).toInt < v7)) (
      cond (decide (v7 < 0)) (
       .row []) (
       cond (decide (v7 < (len v6 : Int))) (
        cond ((cl v6 v7 0).toBool) (
         f7_3 (.int v0) v1 (.int v2) v3 (.bool v4) (.int v5) (upd v6 v7 0 (.bool true)) (.int v7) (.int (IntKind.wrap .i64 (v8 + 1))) nilD) (
         f7_3 (.int v0) v1 (.int v2) v3 (.bool v4) (.int v5) (upd v6 v7 0 (.bool false)) (.int v7) (.int (IntKind.wrap .i64 (v8 + 1))) nilD)) (
        .row []))) (
      cond (decide ((cl v1 v8 8).toInt < (-1000))) (
       cond (decide (v7 < 0)) (
        .row []) (
        cond (decide (v7 < (len v6 : Int))) (
         cond ((cl v6 v7 0).toBool) (
          f7_3 (.int v0) v1 (.int v2) v3 (.bool v4) (.int v5) (upd v6 v7 0 (.bool true)) (.int v7) (.int (IntKind.wrap .i64 (v8 + 1))) nilD) (
          f7_3 (.int v0) v1 (.int v2) v3 (.bool v4) (.int v5) (upd v6 v7 0 (.bool false)) (.int v7) (.int (IntKind.wrap .i64 (v8 + 1))) nilD)) (
         .row []))) (
       cond (decide (1000 < (cl v1 v8 8).toInt)) (
        cond (decide (v7 < 0)) (
         .row []) (
         cond (decide (v7 < (len v6 : Int))) (
          cond ((cl v6 v7 0).toBool) (
           f7_3 (.int v0) v1 (.int v2) v3 (.bool v4) (.int v5) (upd v6 v7 0 (.bool true)) (.int v7) (.int (IntKind.wrap .i64 (v8 + 1))) nilD) (
           f7_3 (.int v0) v1 (.int v2) v3 (.bool v4) (.int v5) (upd v6 v7 0 (.bool false)) (.int v7) (.int (IntKind.wrap .i64 (v8 + 1))) nilD)) (
          .row []))) (
        cond (decide ((IntKind.wrap .i64 (v7 + (cl v1 v8 8).toInt)) < 0)) (
         cond (decide (v7 < 0)) (
          .row []) (
          cond (decide (v7 < (len v6 : Int))) (
           cond ((cl v6 v7 0).toBool) (
            f7_3 (.int v0) v1 (.int v2) v3 (.bool v4) (.int v5) (upd v6 v7 0 (.bool true)) (.int v7) (.int (IntKind.wrap .i64 (v8 + 1))) nilD) (
            f7_3 (.int v0) v1 (.int v2) v3 (.bool v4) (.int v5) (upd v6 v7 0 (.bool false)) (.int v7) (.int (IntKind.wrap .i64 (v8 + 1))) nilD)) (
           .row []))) (
         cond (decide (v0 < (IntKind.wrap .i64 (v7 + (cl v1 v8 8).toInt)))) (
          cond (decide (v7 < 0)) (
           .row []) (
           cond (decide (v7 < (len v6 : Int))) (
            cond ((cl v6 v7 0).toBool) (
             f7_3 (.int v0) v1 (.int v2) v3 (.bool v4) (.int v5) (upd v6 v7 0 (.bool true)) (.int v7) (.int (IntKind.wrap .i64 (v8 + 1))) nilD) (
             f7_3 (.int v0) v1 (.int v2) v3 (.bool v4) (.int v5) (upd v6 v7 0 (.bool false)) (.int v7) (.int (IntKind.wrap .i64 (v8 + 1))) nilD)) (
            .row []))) (
          cond (decide (v7 < 0)) (
           .row []) (
           cond (decide (v7 < (len v6 : Int))) (
            cond ((cl v6 v7 0).toBool) (
             f7_3 (.int v0) v1 (.int v2) v3 (.bool v4) (.int v5) (upd v6 v7 0 (.bool true)) (.int v7) (.int (IntKind.wrap .i64 (v8 + 1))) nilD) (
             cond (decide ((IntKind.wrap .i64 (v5 - 1)) < 0)) (
              .row []) (
              cond (decide ((IntKind.wrap .i64 (v5 - 1)) < (len v3 : Int))) (
               cond (decide ((IntKind.wrap .i64 (v7 + (cl v1 v8 8).toInt)) < (len (cl v3 (IntKind.wrap .i64 (v5 - 1)) 0) : Int))) (
                f7_3 (.int v0) v1 (.int v2) v3 (.bool v4) (.int v5) (upd v6 v7 0 (cl (cl v3 (IntKind.wrap .i64 (v5 - 1)) 0) (IntKind.wrap .i64 (v7 + (cl v1 v8 8).toInt)) 0)) (.int v7) (.int (IntKind.wrap .i64 (v8 + 1))) nilD) (
                .row [])) (
               .row [])))) (
            .row [])))))))))) (
   f7_2 (.int v0) v1 (.int v2) v3 (.bool v4) (.int v5) v6 (.int (IntKind.wrap .i64 (v7 + 1))) nilD) :=
  (g_walk lt (T := t7) (t := t7p3) rfl rfl).trans (cg (lE rfl rfl) (cg (lE rfl rfl) rfl (cg (lE rfl rfl) (cg (lE rfl rfl) rfl (cg (lE rfl rfl) (cg rfl rfl rfl) rfl)) (cg (lE rfl rfl) (cg (lE rfl rfl) rfl (cg (lE rfl rfl) (cg rfl rfl rfl) rfl)) (cg (lE rfl rfl) (cg (lE rfl rfl) rfl (cg (lE rfl rfl) (cg rfl rfl rfl) rfl)) (cg (lE rfl rfl) (cg (lE rfl rfl) rfl (cg (lE rfl rfl) (cg rfl rfl rfl) rfl)) (cg (lE rfl rfl) (cg (lE rfl rfl) rfl (cg (lE rfl rfl) (cg rfl rfl rfl) rfl)) (cg (lE rfl rfl) (cg (lE rfl rfl) rfl (cg (lE rfl rfl) (cg rfl rfl rfl) rfl)) (cg (lE rfl rfl) rfl (cg (lE rfl rfl) (cg rfl rfl (cg (lE rfl rfl) rfl (cg (lE rfl rfl) (cg (lE rfl rfl) rfl rfl) rfl))) rfl))))))))) rfl)
/-! 8: phrasebook/phrasebookref30.Path -/
theorem e8_0 (v0 : Int) (v1 : D) (v2 : Int) : f8_0 (.int v0) v1 (.int v2) =
  cond (decide ((sl (f4_0 (.int v0) v1) 0).toInt = 1)) (
   cond ((sl (f4_0 (.int v0) v1) 1).toBool) (
    cond (decide (v2 < 0)) (
     .row [.int 1, nilD, (.bool true), (.int 9)]) (
     cond (decide (v0 < v2)) (
      .row [.int 1, nilD, (.bool true), (.int 9)]) (
      cond (decide ((sl (f5_0 (.int v0) v1) 0).toInt = 1)) (
       cond (decide (v2 < (len (sl (f5_0 (.int v0) v1) 1) : Int))) (
        cond (decide ((cl (sl (f5_0 (.int v0) v1) 1) v2 0).toInt < 0)) (
         .row [.int 1, nilD, (.bool true), (.int 9)]) (
         cond (decide ((sl (f7_0 (.int v0) v1 (.int v2) (cl (sl (f5_0 (.int v0) v1) 1) v2 0)) 0).toInt = 1)) (
          f8_1 (.int v0) v1 (sl (f7_0 (.int v0) v1 (.int v2) (cl (sl (f5_0 (.int v0) v1) 1) v2 0)) 1) nilD (.bool true) (.int 0) (cl (sl (f5_0 (.int v0) v1) 1) v2 0)) (
          .row []))) (
        .row [])) (
       .row [])))) (
    .row [.int 1, nilD, (.bool true), (.int 2)])) (
   .row []) :=
  (g_walk lt (T := t8) (t := t8p0) rfl rfl).trans (cg (qE rfl rfl) (cg rfl (cg (lE rfl rfl) rfl (cg (lE rfl rfl) rfl (cg (qE rfl rfl) (cg (lE rfl rfl) (cg (lE rfl rfl) rfl (cg (qE rfl rfl) rfl rfl)) rfl) rfl))) rfl) rfl)
theorem e8_1 (v0 : Int) (v1 : D) (v2 : D) (v3 : D) (v4 : Bool) (v5 : Int) (v6 : Int) : f8_1 (.int v0) v1 v2 v3 (.bool v4) (.int v5) (.int v6) =
  cond (decide (0 < v6)) (
   f8_2 (.int v0) v1 v2 v3 (.bool v4) (.int v5) (.int v6) (.int 0)) (
   .row [.int 1, v3, (.bool v4), (.int 0)]) :=
  (g_walk lt (T := t8) (t := t8p1) rfl rfl).trans (cg (lE rfl rfl) rfl rfl)
theorem e8_2 (v0 : Int) (v1 : D) (v2 : D) (v3 : D) (v4 : Bool) (v5 : Int) (v6 : Int) (v7 : Int) : f8_2 (.int v0) v1 v2 v3 (.bool v4) (.int v5) (.int v6) (.int v7) =
  cond (decide (v7 < (len v1 : Int))) (
   cond (decide (v7 < 0)) (
    .row []) (
    cond (decide (v5 < (cl v1 v7 6).toInt)) (
     f8_2 (.int v0) v1 v2 v3 (.bool v4) (.int v5) (.int v6) (.int (IntKind.wrap .i64 (v7 + 1)))) (
     cond (decide ((cl v1 v7 7).toInt < v5)) (
      f8_2 (.int v0) v1 v2 v3 (.bool v4) (.int v5) (.int v6) (.int (IntKind.wrap .i64 (v7 + 1)))) (
      cond (decide ((cl v1 v7 8).toInt < (-1000))) (
       f8_2 (.int v0) v1 v2 v3 (.bool v4) (.int v5) (.int v6) (.int (IntKind.wrap .i64 (v7 + 1)))) (
       cond (decide (1000 < (cl v1 v7 8).toInt)) (
        f8_2 (.int v0) v1 v2 v3 (.bool v4) (.int v5) (.int v6) (.int (IntKind.wrap .i64 (v7 + 1)))) (
        cond (decide ((IntKind.wrap .i64 (v5 + (cl v1 v7 8).toInt)) < 0)) (
         f8_2 (.int v0) v1 v2 v3 (.bool v4) (.int v5) (.int v6) (.int (IntKind.wrap .i64 (v7 + 1)))) (
         cond (decide (v0 < (IntKind.wrap .i64 (v5 + (cl v1 v7 8).toInt)))) (
          f8_2 (.int v0) v1 v2 v3 (.bool v4) (.int v5) (.int v6) (.int (IntKind.wrap .i64 (v7 + 1)))) (
          cond (decide ((IntKind.wrap .i64 (v6 - 1)) < 0)) (
           .row []) (
           cond (decide ((IntKind.wrap .i64 (v6 - 1)) < (len v2 : Int))) (
            cond (decide ((IntKind.wrap .i64 (v5 + (cl v1 v7 8).toInt)) < (len (cl v2 (IntKind.wrap .i64 (v6 - 1)) 0) : Int))) (
             cond ((cl (cl v2 (IntKind.wrap .i64 (v6 - 1)) 0) (IntKind.wrap .i64 (v5 + (cl v1 v7 8).toInt)) 0).toBool) (
              cond (decide ((len v3 : Int) < 1048576)) (
               f8_1 (.int v0) v1 v2 (ad v3 (.row [(.int v7)])) (.bool false) (.int (IntKind.wrap .i64 (v5 + (cl v1 v7 8).toInt))) (.int (IntKind.wrap .i64 (v6 - 1)))) (
               .row [])) (
              f8_2 (.int v0) v1 v2 v3 (.bool v4) (.int v5) (.int v6) (.int (IntKind.wrap .i64 (v7 + 1))))) (
             .row [])) (
            .row [])))))))))) (
   f8_1 (.int v0) v1 v2 v3 (.bool v4) (.int v5) (.int (IntKind.wrap .i64 (v6 - 1)))) :=
  (g_walk lt (T := t8) (t := t8p2) rfl rfl).trans (cg (lE rfl rfl) (cg (lE rfl rfl) rfl (cg (lE rfl rfl) rfl (cg (lE rfl rfl) rfl (cg (lE rfl rfl) rfl (cg (lE rfl rfl) rfl (cg (lE rfl rfl) rfl (cg (lE rfl rfl) rfl (cg (lE rfl rfl) rfl (cg (lE rfl rfl) (cg (lE rfl rfl) (cg rfl (cg (lE rfl rfl) rfl rfl) rfl) rfl) rfl))))))))) rfl)
/-! 9: phrasebook/phrasebooklaw30.same -/
theorem e9_0 (v0 : D) (v1 : Bool) (v2 : D) (v3 : Bool) : f9_0 v0 (.bool v1) v2 (.bool v3) =
  cond (decide ((len v0 : Int) = (len v2 : Int))) (
   f9_1 v0 (.bool v1) v2 (.bool v3) (.int 0)) (
   .row [.int 1, (.bool false)]) :=
  (g_walk lt (T := t9) (t := t9p0) rfl rfl).trans (cg (qE rfl rfl) rfl rfl)
theorem e9_1 (v0 : D) (v1 : Bool) (v2 : D) (v3 : Bool) (v4 : Int) : f9_1 v0 (.bool v1) v2 (.bool v3) (.int v4) =
  cond (decide (v4 < (len v0 : Int))) (
   cond (decide (v4 < 0)) (
    .row []) (
    cond (decide (v4 < (len v2 : Int))) (
     cond (decide ((cl v0 v4 0).toInt = (cl v2 v4 0).toInt)) (
      f9_1 v0 (.bool v1) v2 (.bool v3) (.int (IntKind.wrap .i64 (v4 + 1)))) (
      .row [.int 1, (.bool false)])) (
     .row []))) (
   .row [.int 1, (.bool true)]) :=
  (g_walk lt (T := t9) (t := t9p1) rfl rfl).trans (cg (lE rfl rfl) (cg (lE rfl rfl) rfl (cg (lE rfl rfl) (cg (qE rfl rfl) rfl rfl) rfl)) rfl)
/-! 10: phrasebook/phrasebooklaw30.same -/
theorem e10_0 (v0 : D) (v1 : D) (v2 : Bool) : f10_0 v0 v1 (.bool v2) =
  cond (decide ((len v0 : Int) = (len v1 : Int))) (
   f10_1 v0 v1 (.bool v2) (.int 0)) (
   .row [.int 1, (.bool false)]) :=
  (g_walk lt (T := t10) (t := t10p0) rfl rfl).trans (cg (qE rfl rfl) rfl rfl)
theorem e10_1 (v0 : D) (v1 : D) (v2 : Bool) (v3 : Int) : f10_1 v0 v1 (.bool v2) (.int v3) =
  cond (decide (v3 < (len v0 : Int))) (
   cond (decide (v3 < 0)) (
    .row []) (
    cond (decide (v3 < (len v1 : Int))) (
     cond (decide ((cl v0 v3 0).toInt = (cl v1 v3 0).toInt)) (
      f10_1 v0 v1 (.bool v2) (.int (IntKind.wrap .i64 (v3 + 1)))) (
      .row [.int 1, (.bool false)])) (
     .row []))) (
   .row [.int 1, (.bool true)]) :=
  (g_walk lt (T := t10) (t := t10p1) rfl rfl).trans (cg (lE rfl rfl) (cg (lE rfl rfl) rfl (cg (lE rfl rfl) (cg (qE rfl rfl) rfl rfl) rfl)) rfl)
/-! 11: phrasebook/phrasebooklaw30.CounterReaches -/
theorem e11_0 (v0 : Int) (v1 : D) (v2 : Int) : f11_0 (.int v0) v1 (.int v2) =
  cond (decide (100 < v0)) (
   cond (decide (1000 < v0)) (
    cond (decide (12 < (len v1 : Int))) (
     cond (decide ((sl (f0_0) 0).toInt = 1)) (
      .row [.int 1, (.bool true)]) (
      .row [])) (
     cond (decide ((sl (f3_0 (.int v0) v1) 0).toInt = 1)) (
      cond (decide ((sl (f6_0 (.int v0) v1) 0).toInt = 1)) (
       cond (decide ((sl (f2_0 (.int v0) v1) 0).toInt = 1)) (
        cond (decide ((sl (f2_0 (.int v0) v1) 5).toInt = 0)) (
         cond (decide (v2 < 0)) (
          cond (decide ((sl (f8_0 (.int v0) v1 (.int v2)) 0).toInt = 1)) (
           cond (decide ((sl (f9_0 (sl (f3_0 (.int v0) v1) 1) (sl (f3_0 (.int v0) v1) 2) (sl (f6_0 (.int v0) v1) 1) (sl (f6_0 (.int v0) v1) 2)) 0).toInt = 1)) (
            cond ((sl (f9_0 (sl (f3_0 (.int v0) v1) 1) (sl (f3_0 (.int v0) v1) 2) (sl (f6_0 (.int v0) v1) 1) (sl (f6_0 (.int v0) v1) 2)) 1).toBool) (
             cond (decide ((sl (f3_0 (.int v0) v1) 3).toInt = (sl (f6_0 (.int v0) v1) 3).toInt)) (
              cond (decide ((sl (f10_0 nilD (sl (f8_0 (.int v0) v1 (.int v2)) 1) (sl (f8_0 (.int v0) v1 (.int v2)) 2)) 0).toInt = 1)) (
               cond ((sl (f10_0 nilD (sl (f8_0 (.int v0) v1 (.int v2)) 1) (sl (f8_0 (.int v0) v1 (.int v2)) 2)) 1).toBool) (
                cond (decide (9 = (sl (f8_0 (.int v0) v1 (.int v2)) 3).toInt)) (
                 cond (decide ((sl (f0_0) 0).toInt = 1)) (
                  .row [.int 1, (.bool true)]) (
                  .row [])) (
                 .row [.int 1, (.bool false)])) (
                .row [.int 1, (.bool false)])) (
               cond (decide ((sl (f9_0 nilD (.bool true) (sl (f8_0 (.int v0) v1 (.int v2)) 1) (sl (f8_0 (.int v0) v1 (.int v2)) 2)) 0).toInt = 1)) (
                cond ((sl (f9_0 nilD (.bool true) (sl (f8_0 (.int v0) v1 (.int v2)) 1) (sl (f8_0 (.int v0) v1 (.int v2)) 2)) 1).toBool) (
                 cond (decide (9 = (sl (f8_0 (.int v0) v1 (.int v2)) 3).toInt)) (
                  cond (decide ((sl (f0_0) 0).toInt = 1)) (
                   .row [.int 1, (.bool true)]) (
                   .row [])) (
                  .row [.int 1, (.bool false)])) (
                 .row [.int 1, (.bool false)])) (
                .row []))) (
              .row [.int 1, (.bool false)])) (
             .row [.int 1, (.bool false)])) (
            .row [])) (
           .row [])) (
          cond (decide (v0 < v2)) (
           cond (decide ((sl (f8_0 (.int v0) v1 (.int v2)) 0).toInt = 1)) (
            cond (decide ((sl (f9_0 (sl (f3_0 (.int v0) v1) 1) (sl (f3_0 (.int v0) v1) 2) (sl (f6_0 (.int v0) v1) 1) (sl (f6_0 (.int v0) v1) 2)) 0).toInt = 1)) (
             cond ((sl (f9_0 (sl (f3_0 (.int v0) v1) 1) (sl (f3_0 (.int v0) v1) 2) (sl (f6_0 (.int v0) v1) 1) (sl (f6_0 (.int v0) v1) 2)) 1).toBool) (
              cond (decide ((sl (f3_0 (.int v0) v1) 3).toInt = (sl (f6_0 (.int v0) v1) 3).toInt)) (
               cond (decide ((sl (f10_0 nilD (sl (f8_0 (.int v0) v1 (.int v2)) 1) (sl (f8_0 (.int v0) v1 (.int v2)) 2)) 0).toInt = 1)) (
                cond ((sl (f10_0 nilD (sl (f8_0 (.int v0) v1 (.int v2)) 1) (sl (f8_0 (.int v0) v1 (.int v2)) 2)) 1).toBool) (
                 cond (decide (9 = (sl (f8_0 (.int v0) v1 (.int v2)) 3).toInt)) (
                  cond (decide ((sl (f0_0) 0).toInt = 1)) (
                   .row [.int 1, (.bool true)]) (
                   .row [])) (
                  .row [.int 1, (.bool false)])) (
                 .row [.int 1, (.bool false)])) (
                cond (decide ((sl (f9_0 nilD (.bool true) (sl (f8_0 (.int v0) v1 (.int v2)) 1) (sl (f8_0 (.int v0) v1 (.int v2)) 2)) 0).toInt = 1)) (
                 cond ((sl (f9_0 nilD (.bool true) (sl (f8_0 (.int v0) v1 (.int v2)) 1) (sl (f8_0 (.int v0) v1 (.int v2)) 2)) 1).toBool) (
                  cond (decide (9 = (sl (f8_0 (.int v0) v1 (.int v2)) 3).toInt)) (
                   cond (decide ((sl (f0_0) 0).toInt = 1)) (
                    .row [.int 1, (.bool true)]) (
                    .row [])) (
                   .row [.int 1, (.bool false)])) (
                  .row [.int 1, (.bool false)])) (
                 .row []))) (
               .row [.int 1, (.bool false)])) (
              .row [.int 1, (.bool false)])) (
             .row [])) (
            .row [])) (
           cond (decide (v2 < (len (sl (f2_0 (.int v0) v1) 3) : Int))) (
            cond ((cl (sl (f2_0 (.int v0) v1) 3) v2 0).toBool) (
             cond (decide (v2 < (len (sl (f2_0 (.int v0) v1) 1) : Int))) (
              cond (decide ((sl (f8_0 (.int v0) v1 (.int v2)) 0).toInt = 1)) (
               cond (decide ((sl (f9_0 (sl (f3_0 (.int v0) v1) 1) (sl (f3_0 (.int v0) v1) 2) (sl (f6_0 (.int v0) v1) 1) (sl (f6_0 (.int v0) v1) 2)) 0).toInt = 1)) (
                cond ((sl (f9_0 (sl (f3_0 (.int v0) v1) 1) (sl (f3_0 (.int v0) v1) 2) (sl (f6_0 (.int v0) v1) 1) (sl (f6_0 (.int v0) v1) 2)) 1).toBool) (
                 cond (decide ((sl (f3_0 (.int v0) v1) 3).toInt = (sl (f6_0 (.int v0) v1) 3).toInt)) (
                  cond (decide ((sl (f10_0 (cl (sl (f2_0 (.int v0) v1) 1) v2 0) (sl (f8_0 (.int v0) v1 (.int v2)) 1) (sl (f8_0 (.int v0) v1 (.int v2)) 2)) 0).toInt = 1)) (
                   cond ((sl (f10_0 (cl (sl (f2_0 (.int v0) v1) 1) v2 0) (sl (f8_0 (.int v0) v1 (.int v2)) 1) (sl (f8_0 (.int v0) v1 (.int v2)) 2)) 1).toBool) (
                    cond (decide (0 = (sl (f8_0 (.int v0) v1 (.int v2)) 3).toInt)) (
                     cond (decide ((sl (f0_0) 0).toInt = 1)) (
                      .row [.int 1, (.bool true)]) (
                      .row [])) (
                     .row [.int 1, (.bool false)])) (
                    .row [.int 1, (.bool false)])) (
                   .row [])) (
                  .row [.int 1, (.bool false)])) (
                 .row [.int 1, (.bool false)])) (
                .row [])) (
               .row [])) (
              .row [])) (
             cond (decide ((sl (f8_0 (.int v0) v1 (.int v2)) 0).toInt = 1)) (
              cond (decide ((sl (f9_0 (sl (f3_0 (.int v0) v1) 1) (sl (f3_0 (.int v0) v1) 2) (sl (f6_0 (.int v0) v1) 1) (sl (f6_0 (.int v0) v1) 2)) 0).toInt = 1)) (
               cond ((sl (f9_0 (sl (f3_0 (.int v0) v1) 1) (sl (f3_0 (.int v0) v1) 2) (sl (f6_0 (.int v0) v1) 1) (sl (f6_0 (.int v0) v1) 2)) 1).toBool) (
                cond (decide ((sl (f3_0 (.int v0) v1) 3).toInt = (sl (f6_0 (.int v0) v1) 3).toInt)) (
                 cond (decide ((sl (f10_0 nilD (sl (f8_0 (.int v0) v1 (.int v2)) 1) (sl (f8_0 (.int v0) v1 (.int v2)) 2)) 0).toInt = 1)) (
                  cond ((sl (f10_0 nilD (sl (f8_0 (.int v0) v1 (.int v2)) 1) (sl (f8_0 (.int v0) v1 (.int v2)) 2)) 1).toBool) (
                   cond (decide (9 = (sl (f8_0 (.int v0) v1 (.int v2)) 3).toInt)) (
                    cond (decide ((sl (f0_0) 0).toInt = 1)) (
                     .row [.int 1, (.bool true)]) (
                     .row [])) (
                    .row [.int 1, (.bool false)])) (
                   .row [.int 1, (.bool false)])) (
                  cond (decide ((sl (f9_0 nilD (.bool true) (sl (f8_0 (.int v0) v1 (.int v2)) 1) (sl (f8_0 (.int v0) v1 (.int v2)) 2)) 0).toInt = 1)) (
                   cond ((sl (f9_0 nilD (.bool true) (sl (f8_0 (.int v0) v1 (.int v2)) 1) (sl (f8_0 (.int v0) v1 (.int v2)) 2)) 1).toBool) (
                    cond (decide (9 = (sl (f8_0 (.int v0) v1 (.int v2)) 3).toInt)) (
                     cond (decide ((sl (f0_0) 0).toInt = 1)) (
                      .row [.int 1, (.bool true)]) (
                      .row [])) (
                     .row [.int 1, (.bool false)])) (
                    .row [.int 1, (.bool false)])) (
                   .row []))) (
                 .row [.int 1, (.bool false)])) (
                .row [.int 1, (.bool false)])) (
               .row [])) (
              .row []))) (
            .row [])))) (
         cond (decide ((sl (f8_0 (.int v0) v1 (.int v2)) 0).toInt = 1)) (
          cond (decide ((sl (f9_0 (sl (f3_0 (.int v0) v1) 1) (sl (f3_0 (.int v0) v1) 2) (sl (f6_0 (.int v0) v1) 1) (sl (f6_0 (.int v0) v1) 2)) 0).toInt = 1)) (
           cond ((sl (f9_0 (sl (f3_0 (.int v0) v1) 1) (sl (f3_0 (.int v0) v1) 2) (sl (f6_0 (.int v0) v1) 1) (sl (f6_0 (.int v0) v1) 2)) 1).toBool) (
            cond (decide ((sl (f3_0 (.int v0) v1) 3).toInt = (sl (f6_0 (.int v0) v1) 3).toInt)) (
             cond (decide ((sl (f10_0 nilD (sl (f8_0 (.int v0) v1 (.int v2)) 1) (sl (f8_0 (.int v0) v1 (.int v2)) 2)) 0).toInt = 1)) (
              cond ((sl (f10_0 nilD (sl (f8_0 (.int v0) v1 (.int v2)) 1) (sl (f8_0 (.int v0) v1 (.int v2)) 2)) 1).toBool) (
               cond (decide ((sl (f2_0 (.int v0) v1) 5).toInt = (sl (f8_0 (.int v0) v1 (.int v2)) 3).toInt)) (
                cond (decide ((sl (f0_0) 0).toInt = 1)) (
                 .row [.int 1, (.bool true)]) (
                 .row [])) (
                .row [.int 1, (.bool false)])) (
               .row [.int 1, (.bool false)])) (
              cond (decide ((sl (f9_0 nilD (.bool true) (sl (f8_0 (.int v0) v1 (.int v2)) 1) (sl (f8_0 (.int v0) v1 (.int v2)) 2)) 0).toInt = 1)) (
               cond ((sl (f9_0 nilD (.bool true) (sl (f8_0 (.int v0) v1 (.int v2)) 1) (sl (f8_0 (.int v0) v1 (.int v2)) 2)) 1).toBool) (
                cond (decide ((sl (f2_0 (.int v0) v1) 5).toInt = (sl (f8_0 (.int v0) v1 (.int v2)) 3).toInt)) (
                 cond (decide ((sl (f0_0) 0).toInt = 1)) (
                  .row [.int 1, (.bool true)]) (
                  .row [])) (
                 .row [.int 1, (.bool false)])) (
                .row [.int 1, (.bool false)])) (
               .row []))) (
             .row [.int 1, (.bool false)])) (
            .row [.int 1, (.bool false)])) (
           .row [])) (
          .row []))) (
        .row [])) (
       .row [])) (
      .row []))) (
    cond (decide ((sl (f0_0) 0).toInt = 1)) (
     .row [.int 1, (.bool true)]) (
     .row []))) (
   cond (decide (12 < (len v1 : Int))) (
    cond (decide ((sl (f0_0) 0).toInt = 1)) (
     .row [.int 1, (.bool true)]) (
     .row [])) (
    cond (decide ((sl (f3_0 (.int v0) v1) 0).toInt = 1)) (
     cond (decide ((sl (f6_0 (.int v0) v1) 0).toInt = 1)) (
      cond (decide ((sl (f2_0 (.int v0) v1) 0).toInt = 1)) (
       cond (decide ((sl (f2_0 (.int v0) v1) 5).toInt = 0)) (
        cond (decide (v2 < 0)) (
         cond (decide ((sl (f8_0 (.int v0) v1 (.int v2)) 0).toInt = 1)) (
          cond (decide ((sl (f9_0 (sl (f3_0 (.int v0) v1) 1) (sl (f3_0 (.int v0) v1) 2) (sl (f6_0 (.int v0) v1) 1) (sl (f6_0 (.int v0) v1) 2)) 0).toInt = 1)) (
           cond ((sl (f9_0 (sl (f3_0 (.int v0) v1) 1) (sl (f3_0 (.int v0) v1) 2) (sl (f6_0 (.int v0) v1) 1) (sl (f6_0 (.int v0) v1) 2)) 1).toBool) (
            cond (decide ((sl (f3_0 (.int v0) v1) 3).toInt = (sl (f6_0 (.int v0) v1) 3).toInt)) (
             cond (decide ((sl (f10_0 nilD (sl (f8_0 (.int v0) v1 (.int v2)) 1) (sl (f8_0 (.int v0) v1 (.int v2)) 2)) 0).toInt = 1)) (
              cond ((sl (f10_0 nilD (sl (f8_0 (.int v0) v1 (.int v2)) 1) (sl (f8_0 (.int v0) v1 (.int v2)) 2)) 1).toBool) (
               cond (decide (9 = (sl (f8_0 (.int v0) v1 (.int v2)) 3).toInt)) (
                cond (decide ((sl (f0_0) 0).toInt = 1)) (
                 .row [.int 1, (.bool true)]) (
                 .row [])) (
                .row [.int 1, (.bool false)])) (
               .row [.int 1, (.bool false)])) (
              cond (decide ((sl (f9_0 nilD (.bool true) (sl (f8_0 (.int v0) v1 (.int v2)) 1) (sl (f8_0 (.int v0) v1 (.int v2)) 2)) 0).toInt = 1)) (
               cond ((sl (f9_0 nilD (.bool true) (sl (f8_0 (.int v0) v1 (.int v2)) 1) (sl (f8_0 (.int v0) v1 (.int v2)) 2)) 1).toBool) (
                cond (decide (9 = (sl (f8_0 (.int v0) v1 (.int v2)) 3).toInt)) (
                 cond (decide ((sl (f0_0) 0).toInt = 1)) (
                  .row [.int 1, (.bool true)]) (
                  .row [])) (
                 .row [.int 1, (.bool false)])) (
                .row [.int 1, (.bool false)])) (
               .row []))) (
             .row [.int 1, (.bool false)])) (
            .row [.int 1, (.bool false)])) (
           .row [])) (
          .row [])) (
         cond (decide (v0 < v2)) (
          cond (decide ((sl (f8_0 (.int v0) v1 (.int v2)) 0).toInt = 1)) (
           cond (decide ((sl (f9_0 (sl (f3_0 (.int v0) v1) 1) (sl (f3_0 (.int v0) v1) 2) (sl (f6_0 (.int v0) v1) 1) (sl (f6_0 (.int v0) v1) 2)) 0).toInt = 1)) (
            cond ((sl (f9_0 (sl (f3_0 (.int v0) v1) 1) (sl (f3_0 (.int v0) v1) 2) (sl (f6_0 (.int v0) v1) 1) (sl (f6_0 (.int v0) v1) 2)) 1).toBool) (
             cond (decide ((sl (f3_0 (.int v0) v1) 3).toInt = (sl (f6_0 (.int v0) v1) 3).toInt)) (
              cond (decide ((sl (f10_0 nilD (sl (f8_0 (.int v0) v1 (.int v2)) 1) (sl (f8_0 (.int v0) v1 (.int v2)) 2)) 0).toInt = 1)) (
               cond ((sl (f10_0 nilD (sl (f8_0 (.int v0) v1 (.int v2)) 1) (sl (f8_0 (.int v0) v1 (.int v2)) 2)) 1).toBool) (
                cond (decide (9 = (sl (f8_0 (.int v0) v1 (.int v2)) 3).toInt)) (
                 cond (decide ((sl (f0_0) 0).toInt = 1)) (
                  .row [.int 1, (.bool true)]) (
                  .row [])) (
                 .row [.int 1, (.bool false)])) (
                .row [.int 1, (.bool false)])) (
               cond (decide ((sl (f9_0 nilD (.bool true) (sl (f8_0 (.int v0) v1 (.int v2)) 1) (sl (f8_0 (.int v0) v1 (.int v2)) 2)) 0).toInt = 1)) (
                cond ((sl (f9_0 nilD (.bool true) (sl (f8_0 (.int v0) v1 (.int v2)) 1) (sl (f8_0 (.int v0) v1 (.int v2)) 2)) 1).toBool) (
                 cond (decide (9 = (sl (f8_0 (.int v0) v1 (.int v2)) 3).toInt)) (
                  cond (decide ((sl (f0_0) 0).toInt = 1)) (
                   .row [.int 1, (.bool true)]) (
                   .row [])) (
                  .row [.int 1, (.bool false)])) (
                 .row [.int 1, (.bool false)])) (
                .row []))) (
              .row [.int 1, (.bool false)])) (
             .row [.int 1, (.bool false)])) (
            .row [])) (
           .row [])) (
          cond (decide (v2 < (len (sl (f2_0 (.int v0) v1) 3) : Int))) (
           cond ((cl (sl (f2_0 (.int v0) v1) 3) v2 0).toBool) (
            cond (decide (v2 < (len (sl (f2_0 (.int v0) v1) 1) : Int))) (
             cond (decide ((sl (f8_0 (.int v0) v1 (.int v2)) 0).toInt = 1)) (
              cond (decide ((sl (f9_0 (sl (f3_0 (.int v0) v1) 1) (sl (f3_0 (.int v0) v1) 2) (sl (f6_0 (.int v0) v1) 1) (sl (f6_0 (.int v0) v1) 2)) 0).toInt = 1)) (
               cond ((sl (f9_0 (sl (f3_0 (.int v0) v1) 1) (sl (f3_0 (.int v0) v1) 2) (sl (f6_0 (.int v0) v1) 1) (sl (f6_0 (.int v0) v1) 2)) 1).toBool) (
                cond (decide ((sl (f3_0 (.int v0) v1) 3).toInt = (sl (f6_0 (.int v0) v1) 3).toInt)) (
                 cond (decide ((sl (f10_0 (cl (sl (f2_0 (.int v0) v1) 1) v2 0) (sl (f8_0 (.int v0) v1 (.int v2)) 1) (sl (f8_0 (.int v0) v1 (.int v2)) 2)) 0).toInt = 1)) (
                  cond ((sl (f10_0 (cl (sl (f2_0 (.int v0) v1) 1) v2 0) (sl (f8_0 (.int v0) v1 (.int v2)) 1) (sl (f8_0 (.int v0) v1 (.int v2)) 2)) 1).toBool) (
                   cond (decide (0 = (sl (f8_0 (.int v0) v1 (.int v2)) 3).toInt)) (
                    cond (decide ((sl (f0_0) 0).toInt = 1)) (
                     .row [.int 1, (.bool true)]) (
                     .row [])) (
                    .row [.int 1, (.bool false)])) (
                   .row [.int 1, (.bool false)])) (
                  .row [])) (
                 .row [.int 1, (.bool false)])) (
                .row [.int 1, (.bool false)])) (
               .row [])) (
              .row [])) (
             .row [])) (
            cond (decide ((sl (f8_0 (.int v0) v1 (.int v2)) 0).toInt = 1)) (
             cond (decide ((sl (f9_0 (sl (f3_0 (.int v0) v1) 1) (sl (f3_0 (.int v0) v1) 2) (sl (f6_0 (.int v0) v1) 1) (sl (f6_0 (.int v0) v1) 2)) 0).toInt = 1)) (
              cond ((sl (f9_0 (sl (f3_0 (.int v0) v1) 1) (sl (f3_0 (.int v0) v1) 2) (sl (f6_0 (.int v0) v1) 1) (sl (f6_0 (.int v0) v1) 2)) 1).toBool) (
               cond (decide ((sl (f3_0 (.int v0) v1) 3).toInt = (sl (f6_0 (.int v0) v1) 3).toInt)) (
                cond (decide ((sl (f10_0 nilD (sl (f8_0 (.int v0) v1 (.int v2)) 1) (sl (f8_0 (.int v0) v1 (.int v2)) 2)) 0).toInt = 1)) (
                 cond ((sl (f10_0 nilD (sl (f8_0 (.int v0) v1 (.int v2)) 1) (sl (f8_0 (.int v0) v1 (.int v2)) 2)) 1).toBool) (
                  cond (decide (9 = (sl (f8_0 (.int v0) v1 (.int v2)) 3).toInt)) (
                   cond (decide ((sl (f0_0) 0).toInt = 1)) (
                    .row [.int 1, (.bool true)]) (
                    .row [])) (
                   .row [.int 1, (.bool false)])) (
                  .row [.int 1, (.bool false)])) (
                 cond (decide ((sl (f9_0 nilD (.bool true) (sl (f8_0 (.int v0) v1 (.int v2)) 1) (sl (f8_0 (.int v0) v1 (.int v2)) 2)) 0).toInt = 1)) (
                  cond ((sl (f9_0 nilD (.bool true) (sl (f8_0 (.int v0) v1 (.int v2)) 1) (sl (f8_0 (.int v0) v1 (.int v2)) 2)) 1).toBool) (
                   cond (decide (9 = (sl (f8_0 (.int v0) v1 (.int v2)) 3).toInt)) (
                    cond (decide ((sl (f0_0) 0).toInt = 1)) (
                     .row [.int 1, (.bool true)]) (
                     .row [])) (
                    .row [.int 1, (.bool false)])) (
                   .row [.int 1, (.bool false)])) (
                  .row []))) (
                .row [.int 1, (.bool false)])) (
               .row [.int 1, (.bool false)])) (
              .row [])) (
             .row []))) (
           .row [])))) (
        cond (decide ((sl (f8_0 (.int v0) v1 (.int v2)) 0).toInt = 1)) (
         cond (decide ((sl (f9_0 (sl (f3_0 (.int v0) v1) 1) (sl (f3_0 (.int v0) v1) 2) (sl (f6_0 (.int v0) v1) 1) (sl (f6_0 (.int v0) v1) 2)) 0).toInt = 1)) (
          cond ((sl (f9_0 (sl (f3_0 (.int v0) v1) 1) (sl (f3_0 (.int v0) v1) 2) (sl (f6_0 (.int v0) v1) 1) (sl (f6_0 (.int v0) v1) 2)) 1).toBool) (
           cond (decide ((sl (f3_0 (.int v0) v1) 3).toInt = (sl (f6_0 (.int v0) v1) 3).toInt)) (
            cond (decide ((sl (f10_0 nilD (sl (f8_0 (.int v0) v1 (.int v2)) 1) (sl (f8_0 (.int v0) v1 (.int v2)) 2)) 0).toInt = 1)) (
             cond ((sl (f10_0 nilD (sl (f8_0 (.int v0) v1 (.int v2)) 1) (sl (f8_0 (.int v0) v1 (.int v2)) 2)) 1).toBool) (
              cond (decide ((sl (f2_0 (.int v0) v1) 5).toInt = (sl (f8_0 (.int v0) v1 (.int v2)) 3).toInt)) (
               cond (decide ((sl (f0_0) 0).toInt = 1)) (
                .row [.int 1, (.bool true)]) (
                .row [])) (
               .row [.int 1, (.bool false)])) (
              .row [.int 1, (.bool false)])) (
             cond (decide ((sl (f9_0 nilD (.bool true) (sl (f8_0 (.int v0) v1 (.int v2)) 1) (sl (f8_0 (.int v0) v1 (.int v2)) 2)) 0).toInt = 1)) (
              cond ((sl (f9_0 nilD (.bool true) (sl (f8_0 (.int v0) v1 (.int v2)) 1) (sl (f8_0 (.int v0) v1 (.int v2)) 2)) 1).toBool) (
               cond (decide ((sl (f2_0 (.int v0) v1) 5).toInt = (sl (f8_0 (.int v0) v1 (.int v2)) 3).toInt)) (
                cond (decide ((sl (f0_0) 0).toInt = 1)) (
                 .row [.int 1, (.bool true)]) (
                 .row [])) (
                .row [.int 1, (.bool false)])) (
               .row [.int 1, (.bool false)])) (
              .row []))) (
            .row [.int 1, (.bool false)])) (
           .row [.int 1, (.bool false)])) (
          .row [])) (
         .row []))) (
       .row [])) (
      .row [])) (
     .row []))) :=
  (g_walk lt (T := t11) (t := t11p0) rfl rfl).trans (cg (lE rfl rfl) (cg (lE rfl rfl) (cg (lE rfl rfl) (cg (qE rfl rfl) rfl rfl) (cg (qE rfl rfl) (cg (qE rfl rfl) (cg (qE rfl rfl) (cg (qE rfl rfl) (cg (lE rfl rfl) (cg (qE rfl rfl) (cg (qE rfl rfl) (cg rfl (cg (qE rfl rfl) (cg (qE rfl rfl) (cg rfl (cg (qE rfl rfl) (cg (qE rfl rfl) rfl rfl) rfl) rfl) (cg (qE rfl rfl) (cg rfl (cg (qE rfl rfl) (cg (qE rfl rfl) rfl rfl) rfl) rfl) rfl)) rfl) rfl) rfl) rfl) (cg (lE rfl rfl) (cg (qE rfl rfl) (cg (qE rfl rfl) (cg rfl (cg (qE rfl rfl) (cg (qE rfl rfl) (cg rfl (cg (qE rfl rfl) (cg (qE rfl rfl) rfl rfl) rfl) rfl) (cg (qE rfl rfl) (cg rfl (cg (qE rfl rfl) (cg (qE rfl rfl) rfl rfl) rfl) rfl) rfl)) rfl) rfl) rfl) rfl) (cg (lE rfl rfl) (cg rfl (cg (lE rfl rfl) (cg (qE rfl rfl) (cg (qE rfl rfl) (cg rfl (cg (qE rfl rfl) (cg (qE rfl rfl) (cg rfl (cg (qE rfl rfl) (cg (qE rfl rfl) rfl rfl) rfl) rfl) rfl) rfl) rfl) rfl) rfl) rfl) (cg (qE rfl rfl) (cg (qE rfl rfl) (cg rfl (cg (qE rfl rfl) (cg (qE rfl rfl) (cg rfl (cg (qE rfl rfl) (cg (qE rfl rfl) rfl rfl) rfl) rfl) (cg (qE rfl rfl) (cg rfl (cg (qE rfl rfl) (cg (qE rfl rfl) rfl rfl) rfl) rfl) rfl)) rfl) rfl) rfl) rfl)) rfl))) (cg (qE rfl rfl) (cg (qE rfl rfl) (cg rfl (cg (qE rfl rfl) (cg (qE rfl rfl) (cg rfl (cg (qE rfl rfl) (cg (qE rfl rfl) rfl rfl) rfl) rfl) (cg (qE rfl rfl) (cg rfl (cg (qE rfl rfl) (cg (qE rfl rfl) rfl rfl) rfl) rfl) rfl)) rfl) rfl) rfl) rfl)) rfl) rfl) rfl)) (cg (qE rfl rfl) rfl rfl)) (cg (lE rfl rfl) (cg (qE rfl rfl) rfl rfl) (cg (qE rfl rfl) (cg (qE rfl rfl) (cg (qE rfl rfl) (cg (qE rfl rfl) (cg (lE rfl rfl) (cg (qE rfl rfl) (cg (qE rfl rfl) (cg rfl (cg (qE rfl rfl) (cg (qE rfl rfl) (cg rfl (cg (qE rfl rfl) (cg (qE rfl rfl) rfl rfl) rfl) rfl) (cg (qE rfl rfl) (cg rfl (cg (qE rfl rfl) (cg (qE rfl rfl) rfl rfl) rfl) rfl) rfl)) rfl) rfl) rfl) rfl) (cg (lE rfl rfl) (cg (qE rfl rfl) (cg (qE rfl rfl) (cg rfl (cg (qE rfl rfl) (cg (qE rfl rfl) (cg rfl (cg (qE rfl rfl) (cg (qE rfl rfl) rfl rfl) rfl) rfl) (cg (qE rfl rfl) (cg rfl (cg (qE rfl rfl) (cg (qE rfl rfl) rfl rfl) rfl) rfl) rfl)) rfl) rfl) rfl) rfl) (cg (lE rfl rfl) (cg rfl (cg (lE rfl rfl) (cg (qE rfl rfl) (cg (qE rfl rfl) (cg rfl (cg (qE rfl rfl) (cg (qE rfl rfl) (cg rfl (cg (qE rfl rfl) (cg (qE rfl rfl) rfl rfl) rfl) rfl) rfl) rfl) rfl) rfl) rfl) rfl) (cg (qE rfl rfl) (cg (qE rfl rfl) (cg rfl (cg (qE rfl rfl) (cg (qE rfl rfl) (cg rfl (cg (qE rfl rfl) (cg (qE rfl rfl) rfl rfl) rfl) rfl) (cg (qE rfl rfl) (cg rfl (cg (qE rfl rfl) (cg (qE rfl rfl) rfl rfl) rfl) rfl) rfl)) rfl) rfl) rfl) rfl)) rfl))) (cg (qE rfl rfl) (cg (qE rfl rfl) (cg rfl (cg (qE rfl rfl) (cg (qE rfl rfl) (cg rfl (cg (qE rfl rfl) (cg (qE rfl rfl) rfl rfl) rfl) rfl) (cg (qE rfl rfl) (cg rfl (cg (qE rfl rfl) (cg (qE rfl rfl) rfl rfl) rfl) rfl) rfl)) rfl) rfl) rfl) rfl)) rfl) rfl) rfl)))
end
end Go.CR
namespace Go.CR
open Go.AE
/-! COUNTERREACHES: PATHS AND THEIR ORDER -/
/-- lexicographic order of lists of the same length -/
def Lle : List Nat → List Nat → Prop
  | [], _ => True
  | _ :: _, [] => False
  | a :: q, b :: r => a < b ∨ a = b ∧ Lle q r
def Llt : List Nat → List Nat → Prop
  | a :: q, b :: r => a < b ∨ a = b ∧ Llt q r
  | _, _ => False
theorem Lle.refl : ∀ q, Lle q q
  | [] => trivial
  | _ :: q => .inr ⟨rfl, Lle.refl q⟩
theorem Lle.antisymm : ∀ {q r : List Nat}, q.length = r.length → Lle q r → Lle r q → q = r
  | [], [], _, _, _ => rfl
  | a :: q, b :: r, hl, h, h' => by
    simp only [Lle] at h h'
    rcases h with h | ⟨h, h2⟩
    · rcases h' with h' | ⟨h', _⟩ <;> omega
    · rcases h' with h' | ⟨_, h2'⟩
      · omega
      · rw [h, Lle.antisymm (by simpa using hl) h2 h2']
theorem Lle.snoc : ∀ {q r : List Nat} {i j : Nat}, q.length = r.length → Lle q r → i ≤ j → Lle (q ++ [i]) (r ++ [j])
  | [], [], i, j, _, _, h => by
    exact (Nat.lt_or_eq_of_le h).imp id (fun e => ⟨e, trivial⟩)
  | a :: q, b :: r, i, j, hl, h, hij => by
    simp only [Lle] at h
    show a < b ∨ a = b ∧ Lle (q ++ [i]) (r ++ [j])
    rcases h with h | ⟨h, h2⟩
    · exact .inl h
    · exact .inr ⟨h, Lle.snoc (by simpa using hl) h2 hij⟩
theorem Llt.le : ∀ {q r : List Nat}, Llt q r → Lle q r
  | [], _, h => trivial
  | _ :: _, [], h => h
  | a :: q, b :: r, h => by
    simp only [Llt] at h
    rcases h with h | ⟨h, h2⟩
    · exact .inl h
    · exact .inr ⟨h, Llt.le h2⟩
theorem Llt.snoc : ∀ {q r : List Nat} {i j : Nat}, Llt q r → Llt (q ++ [i]) (r ++ [j])
  | [], _, _, _, h => h.elim
  | _ :: _, [], _, _, h => h.elim
  | a :: q, b :: r, i, j, h => by
    simp only [Llt] at h
    show a < b ∨ a = b ∧ Llt (q ++ [i]) (r ++ [j])
    rcases h with h | ⟨h, h2⟩
    · exact .inl h
    · exact .inr ⟨h, Llt.snoc h2⟩
theorem Llt.last : ∀ {q : List Nat} {i j : Nat}, i < j → Llt (q ++ [i]) (q ++ [j])
  | [], i, j, h => .inl h
  | a :: q, i, j, h => .inr ⟨rfl, Llt.last h⟩
theorem Llt.trans : ∀ {p q r : List Nat}, Llt p q → Llt q r → Llt p r
  | a :: p, b :: q, c :: r, h, h' => by
    simp only [Llt] at h h' ⊢
    rcases h with h | ⟨h, h2⟩
    · rcases h' with h' | ⟨h', _⟩ <;> exact .inl (by omega)
    · rcases h' with h' | ⟨h', h2'⟩
      · exact .inl (by omega)
      · exact .inr ⟨by omega, Llt.trans h2 h2'⟩
theorem Lle.trans : ∀ {p q r : List Nat}, Lle p q → Lle q r → Lle p r
  | [], _, _, _, _ => trivial
  | _ :: _, [], _, h, _ => h.elim
  | _ :: _, _ :: _, [], _, h => h.elim
  | a :: p, b :: q, c :: r, h, h' => by
    simp only [Lle] at h h' ⊢
    rcases h with h | ⟨h, h2⟩
    · rcases h' with h' | ⟨h', _⟩ <;> exact .inl (by omega)
    · rcases h' with h' | ⟨h', h2'⟩
      · exact .inl (by omega)
      · exact .inr ⟨by omega, Lle.trans h2 h2'⟩
/-- shorter, or as long and not behind -/
def Sle (q r : List Nat) : Prop := q.length < r.length ∨ q.length = r.length ∧ Lle q r

/-- whether step i is allowed at v -/
def sAdd (S : D) (i : Nat) : Int := (cl S i 8).toInt
def Alw (L : Int) (S : D) (i : Nat) (v : Int) : Prop := (cl S i 6).toInt ≤ v ∧ v ≤ (cl S i 7).toInt ∧ 0 ≤ v + sAdd S i ∧ v + sAdd S i ≤ L
/-- a path from a to b -/
def Pa (L : Int) (S : D) : List Nat → Int → Int → Prop
  | [], a, b => a = b
  | i :: r, a, b => i < len S ∧ Alw L S i a ∧ Pa L S r (a + sAdd S i) b
theorem Pa.snoc {L : Int} {S : D} {i : Nat} {v : Int} (hi : i < len S) (hv : Alw L S i v) : ∀ {q : List Nat} {a : Int}, Pa L S q a v → Pa L S (q ++ [i]) a (v + sAdd S i)
  | [], a, h => by
    have h : a = v := h
    subst h
    exact ⟨hi, hv, rfl⟩
  | j :: q, a, ⟨h1, h2, h3⟩ => ⟨h1, h2, Pa.snoc hi hv h3⟩
theorem Pa.unsnoc {L : Int} {S : D} {i : Nat} {w : Int} : ∀ {q : List Nat} {a : Int}, Pa L S (q ++ [i]) a w → ∃ v, Pa L S q a v ∧ i < len S ∧ Alw L S i v ∧ w = v + sAdd S i
  | [], a, ⟨h1, h2, h3⟩ => ⟨a, rfl, h1, h2, Eq.symm h3⟩
  | j :: q, a, ⟨h1, h2, h3⟩ => by
    obtain ⟨v, g1, g2⟩ := Pa.unsnoc h3
    exact ⟨v, ⟨h1, h2, g1⟩, g2⟩
theorem Pa.range {L : Int} {S : D} : ∀ {q : List Nat} {a b : Int}, Pa L S q a b → 0 ≤ a → a ≤ L → 0 ≤ b ∧ b ≤ L
  | [], a, b, h, h1, h2 => by
    have h : a = b := h
    omega
  | i :: q, a, b, ⟨_, h2, h3⟩, _, _ => Pa.range h3 h2.2.2.1 h2.2.2.2
theorem snoc_cases : ∀ q : List Nat, q = [] ∨ ∃ r i, q = r ++ [i]
  | q => (List.eq_nil_or_concat q).imp id fun ⟨r, i, h⟩ => ⟨r, i, by simpa using h⟩
/-- lists of numbers as data -/
def encN (l : List Nat) : List D := l.map fun (i : Nat) => .row [.int i]
def enc (l : List Int) : List D := l.map fun i => .row [.int i]
theorem encN_snoc (l : List Nat) (i : Nat) : encN (l ++ [i]) = encN l ++ [.row [.int i]] := by simp [encN]
theorem enc_snoc (l : List Int) (i : Int) : enc (l ++ [i]) = enc l ++ [.row [.int i]] := by simp [enc]
theorem encN_len (l : List Nat) : (encN l).length = l.length := by simp [encN]
theorem enc_len (l : List Int) : (enc l).length = l.length := by simp [enc]
/-- the way back -/
def decN (d : D) : List Nat := d.rows.map fun r => (sl r 0).toInt.toNat
theorem decN_encN {d : D} {l : List Nat} (h : d.rows = encN l) : decN d = l := by
  unfold decN
  rw [h]
  unfold encN
  rw [List.map_map]
  conv => rhs; rw [← List.map_id l]
  apply List.map_congr_left
  intro i _
  rfl
end Go.CR
namespace Go.CR
open Go.AE
/-! COUNTERREACHES: counter.search, the invariant -/
abbrev fd (F : D) (w : Int) : Bool := (cl F w 0).toBool
abbrev pa (P : D) (w : Int) : List Nat := decN (cl P w 0)
/-- how many are found -/
def cnt (F : D) : Nat := F.rows.countP fun r => (r.cells.getD 0 default).toBool
theorem cnt_le {F : D} : cnt F ≤ len F := List.countP_le_length
theorem countP_mod {p : D → Bool} {f : D → D} : ∀ {l : List D} {w : Nat} (hw : w < l.length), p l[w] = false → p (f l[w]) = true → (l.modify w f).countP p = l.countP p + 1
  | x :: l, 0, hw, h, h' => by
    have h : p x = false := h
    have h' : p (f x) = true := h'
    simp [List.countP_cons, h, h']
  | x :: l, w + 1, hw, h, h' => by
    have hw' : w < l.length := by simpa using hw
    have := countP_mod (p := p) (f := f) hw' h h'
    simp only [List.modify_succ_cons, List.countP_cons, this]
    omega
theorem cnt_up {F : D} {w : Int} (h : Wd F 1) (h0 : 0 ≤ w) (hw : w < len F) (hf : fd F w = false) : cnt (upd F w 0 (.bool true)) = cnt F + 1 := by
  have hw2 : w.toNat < F.rows.length := by have : len F = F.rows.length := rfl; omega
  show (F.rows.modify w.toNat _).countP _ = _
  refine countP_mod hw2 ?_ ?_
  · have : cl F w 0 = (F.rows[w.toNat]).cells.getD 0 default := by
      show (F.rows[w.toNat]?.getD default).cells.getD 0 default = _
      rw [List.getElem?_eq_getElem hw2]
      rfl
    rw [← this]
    exact hf
  · obtain ⟨cs, hc, hn⟩ := h _ (List.getElem_mem hw2)
    rw [hc]
    cases cs with
    | nil => cases hn
    | cons y ys => rfl
structure Inv (L : Int) (S P F : D) (n : Nat) : Prop where
  wdP : Wd P 1
  wdF : Wd F 1
  lenP : (len P : Int) = L + 1
  lenF : (len F : Int) = L + 1
  path : ∀ w, 0 ≤ w → w ≤ L → fd F w = true → (cl P w 0).rows = encN (pa P w) ∧ Pa L S (pa P w) 0 w ∧ (∀ q, Pa L S q 0 w → Sle (pa P w) q) ∧ (pa P w).length ≤ n + 1
  nil : ∀ w, 0 ≤ w → w ≤ L → (cl P w 0).isNil = true → (cl P w 0).rows = []
  com : ∀ q w, Pa L S q 0 w → q.length ≤ n → fd F w = true
/-- in the midst of a level: l1 are done, v is at step i -/
structure Mid (L : Int) (S P F : D) (n : Nat) (l1 : List Int) (v : Int) (l2 : List Int) (i : Nat) (nl : List Int) : Prop where
  inv : Inv L S P F n
  lvs : ∀ u ∈ l1 ++ v :: l2, 0 ≤ u ∧ u ≤ L ∧ fd F u = true ∧ (pa P u).length = n
  lvc : ∀ u, 0 ≤ u → u ≤ L → fd F u = true → (pa P u).length = n → u ∈ l1 ++ v :: l2
  lso : (l1 ++ v :: l2).Pairwise fun u u' => Llt (pa P u) (pa P u')
  nls : ∀ w ∈ nl, 0 ≤ w ∧ w ≤ L ∧ fd F w = true ∧ (pa P w).length = n + 1
  nlc : ∀ w, 0 ≤ w → w ≤ L → fd F w = true → (pa P w).length = n + 1 → w ∈ nl
  nso : nl.Pairwise fun u u' => Llt (pa P u) (pa P u')
  bnd : ∀ w ∈ nl, Llt (pa P w) (pa P v ++ [i])
  don : ∀ u ∈ l1, ∀ j, j < len S → Alw L S j u → fd F (u + sAdd S j) = true
  don2 : ∀ j, j < i → Alw L S j v → fd F (v + sAdd S j) = true
  cn : n + 1 + nl.length ≤ cnt F
/-- a step of v that finds nothing new -/
theorem Mid.skip {L : Int} {S P F : D} {n : Nat} {l1 l2 nl : List Int} {v : Int} {i : Nat} (h : Mid L S P F n l1 v l2 i nl) (hs : Alw L S i v → fd F (v + sAdd S i) = true) : Mid L S P F n l1 v l2 (i + 1) nl :=
  { h with
    bnd := fun w hw => (h.bnd w hw).trans (Llt.last (by omega))
    don2 := fun j hj ha => by
      rcases Nat.lt_or_ge j i with q | q
      · exact h.don2 j q ha
      · have : j = i := by omega
        subst this
        exact hs ha }
theorem sl1 {x : D} : sl (.row [x]) 0 = x := rfl
/-- a step of v that finds w -/
theorem Mid.new {L : Int} {S P F X : D} {n : Nat} {l1 l2 nl : List Int} {v w : Int} {i : Nat} (h : Mid L S P F n l1 v l2 i nl) (hi : i < len S) (ha : Alw L S i v) (hw : w = v + sAdd S i) (hn : fd F w = false)
    (hX : X.rows = encN (pa P v ++ [i])) (hX' : X.isNil = false) : Mid L S (upd P w 0 X) (upd F w 0 (.bool true)) n l1 v l2 (i + 1) (nl ++ [w]) := by
  have hw0 : 0 ≤ w := by have := ha.2.2.1; omega
  have hwL : w ≤ L := by have := ha.2.2.2; omega
  have hwP : w < len P := by have := h.inv.lenP; omega
  have hwF : w < len F := by have := h.inv.lenF; omega
  have ff : ∀ u, 0 ≤ u → fd (upd F w 0 (.bool true)) u = if u = w then true else fd F u := by
    intro u hu
    show (cl (upd F w 0 (.bool true)) u 0).toBool = _
    rw [cl_upd h.inv.wdF (by omega) hw0 hwF hu]
    by_cases q : u = w
    · rw [if_pos ⟨q, rfl⟩, if_pos q]; rfl
    · rw [if_neg (fun c => q c.1), if_neg q]
  have pw : pa (upd P w 0 X) w = pa P v ++ [i] := by
    show decN (cl (upd P w 0 X) w 0) = _
    rw [cl_upd_same h.inv.wdP (by omega) hw0 hwP]
    exact decN_encN hX
  have pne : ∀ u, 0 ≤ u → u ≠ w → cl (upd P w 0 X) u 0 = cl P u 0 := fun u hu q => cl_upd_ne h.inv.wdP (by omega) hw0 hwP hu q
  have pf : ∀ u, 0 ≤ u → fd F u = true → pa (upd P w 0 X) u = pa P u := by
    intro u hu hf
    show decN _ = _
    rw [pne u hu (fun c => by rw [c, hn] at hf; cases hf)]
  have fm : ∀ u, 0 ≤ u → fd F u = true → fd (upd F w 0 (.bool true)) u = true := by
    intro u hu hf
    rw [ff u hu, hf]
    split <;> rfl
  have fo : ∀ u, 0 ≤ u → fd (upd F w 0 (.bool true)) u = true → u = w ∨ fd F u = true := by
    intro u hu hf
    rw [ff u hu] at hf
    split at hf
    · exact .inl (by assumption)
    · exact .inr hf
  obtain ⟨v0, vL, vf, vn⟩ := h.lvs v (by simp)
  obtain ⟨vp1, vp2, vp3, vp4⟩ := h.inv.path v v0 vL vf
  have hmin : ∀ q, Pa L S q 0 w → Sle (pa P v ++ [i]) q := by
    intro q hq
    have hlen : n + 1 ≤ q.length := by
      rcases Nat.lt_or_ge n q.length with c | c
      · exact c
      · have := h.inv.com q w hq c
        rw [hn] at this
        cases this
    rcases Nat.lt_or_ge (n + 1) q.length with c | c
    · exact .inl (by simp [vn]; omega)
    · right
      refine ⟨by simp [vn]; omega, ?_⟩
      rcases snoc_cases q with e | ⟨r, j, e⟩
      · subst e; simp at hlen
      · subst e
        obtain ⟨u, g1, g2, g3, g4⟩ := hq.unsnoc
        have hr : r.length = n := by simp at c hlen; omega
        have hu := g1.range (by omega) (by omega)
        have uf := h.inv.com r u g1 (by omega)
        obtain ⟨up1, up2, up3, up4⟩ := h.inv.path u hu.1 hu.2 uf
        have ul : (pa P u).length = n := by
          rcases up3 r g1 with c | ⟨c, _⟩
          · have := h.inv.com _ _ (up2.snoc g2 g3) (by simp; omega)
            rw [← g4, hn] at this
            cases this
          · omega
        have ule : Lle (pa P u) r := by
          rcases up3 r g1 with c | ⟨_, c⟩
          · omega
          · exact c
        have hm := h.lvc u hu.1 hu.2 uf ul
        rcases List.mem_append.1 hm with q1 | q1
        · have := h.don u q1 j g2 g3
          rw [← g4, hn] at this
          cases this
        · rcases List.mem_cons.1 q1 with q1 | q1
          · subst q1
            rcases Nat.lt_or_ge j i with q2 | q2
            · have := h.don2 j q2 g3
              rw [← g4, hn] at this
              cases this
            · exact Lle.snoc (by omega) ule q2
          · have hlt : Llt (pa P v) (pa P u) := by
              have := (List.pairwise_append.1 h.lso).2.1
              exact (List.pairwise_cons.1 this).1 u q1
            exact (hlt.snoc (i := i) (j := j)).le.trans (Lle.snoc (by omega) ule (Nat.le_refl j))
  have vne : v ≠ w := fun c => by rw [← c, vf] at hn; cases hn
  have pv : pa (upd P w 0 X) v = pa P v := pf v v0 vf
  refine ⟨⟨wd_upd h.inv.wdP, wd_upd h.inv.wdF, by rw [len_upd]; exact h.inv.lenP, by rw [len_upd]; exact h.inv.lenF, ?_, ?_, ?_⟩, ?_, ?_, ?_, ?_, ?_, ?_, ?_, ?_, ?_, ?_⟩
  · intro u hu hu' hf
    rcases fo u hu hf with q | q
    · subst q
      rw [pw, cl_upd_same h.inv.wdP (by omega) hw0 hwP]
      refine ⟨hX, ?_, hmin, by simp; omega⟩
      rw [hw]
      exact vp2.snoc hi ha
    · have q2 : u ≠ w := fun c => by rw [c, hn] at q; cases q
      rw [pf u hu q, pne u hu q2]
      exact h.inv.path u hu hu' q
  · intro u hu hu' hx
    by_cases q : u = w
    · subst q
      rw [cl_upd_same h.inv.wdP (by omega) hw0 hwP, hX'] at hx
      cases hx
    · rw [pne u hu q] at hx ⊢
      exact h.inv.nil u hu hu' hx
  · intro q u hq hl
    have hu := hq.range (by omega) (by omega)
    exact fm u hu.1 (h.inv.com q u hq hl)
  · intro u hu
    obtain ⟨a1, a2, a3, a4⟩ := h.lvs u hu
    exact ⟨a1, a2, fm u a1 a3, by rw [pf u a1 a3]; exact a4⟩
  · intro u hu hu' hf hl
    rcases fo u hu hf with q | q
    · subst q
      rw [pw] at hl
      simp at hl
      omega
    · rw [pf u hu q] at hl
      exact h.lvc u hu hu' q hl
  · refine h.lso.imp_of_mem ?_
    intro u u' hu hu' q
    obtain ⟨a1, _, a3, _⟩ := h.lvs u hu
    obtain ⟨b1, _, b3, _⟩ := h.lvs u' hu'
    rw [pf u a1 a3, pf u' b1 b3]
    exact q
  · intro u hu
    rcases List.mem_append.1 hu with q | q
    · obtain ⟨a1, a2, a3, a4⟩ := h.nls u q
      exact ⟨a1, a2, fm u a1 a3, by rw [pf u a1 a3]; exact a4⟩
    · rw [List.mem_singleton.1 q]
      exact ⟨hw0, hwL, by rw [ff w hw0, if_pos rfl], by rw [pw]; simp; omega⟩
  · intro u hu hu' hf hl
    rcases fo u hu hf with q | q
    · rw [q]; simp
    · rw [pf u hu q] at hl
      exact List.mem_append_left _ (h.nlc u hu hu' q hl)
  · rw [List.pairwise_append]
    refine ⟨h.nso.imp_of_mem ?_, by simp, ?_⟩
    · intro u u' hu hu' q
      obtain ⟨a1, _, a3, _⟩ := h.nls u hu
      obtain ⟨b1, _, b3, _⟩ := h.nls u' hu'
      rw [pf u a1 a3, pf u' b1 b3]
      exact q
    · intro u hu u' hu'
      rw [List.mem_singleton.1 hu', pw]
      obtain ⟨a1, _, a3, _⟩ := h.nls u hu
      rw [pf u a1 a3]
      exact h.bnd u hu
  · intro u hu
    rw [pv]
    rcases List.mem_append.1 hu with q | q
    · obtain ⟨a1, _, a3, _⟩ := h.nls u q
      rw [pf u a1 a3]
      exact (h.bnd u q).trans (Llt.last (by omega))
    · rw [List.mem_singleton.1 q, pw]
      exact Llt.last (by omega)
  · intro u hu j hj hal
    obtain ⟨a1, _⟩ := h.lvs u (by simp [hu])
    exact fm _ (by have := hal.2.2.1; omega) (h.don u hu j hj hal)
  · intro j hj hal
    have h0 : 0 ≤ v + sAdd S j := hal.2.2.1
    rcases Nat.lt_or_ge j i with q | q
    · exact fm _ h0 (h.don2 j q hal)
    · have : j = i := by omega
      subst this
      rw [← hw, ff w hw0, if_pos rfl]
  · rw [cnt_up h.inv.wdF hw0 hwF hn]
    have := h.cn
    simp
    omega
end Go.CR
namespace Go.CR
open Go.AE
/-! COUNTERREACHES: counter.search, the loops -/
section
variable [While]
structure Good (L : Int) (S : D) : Prop where
  l1 : 1 ≤ L
  l2 : L ≤ 1000
  s : len S < 1000
  a : ∀ j : Nat, j < len S → -1000 ≤ sAdd S j ∧ sAdd S j ≤ 1000
theorem inner {L : Int} {S lv : D} (hG : Good L S) {n : Nat} {l1 l2 : List Int} {v : Int} {b : Bool} {m li : Int} :
    ∀ (k i : Nat) (P F N : D) (nn : Bool) (nl : List Int), i + k = len S → N.rows = enc nl → Mid L S P F n l1 v l2 i nl →
    ∃ P' F' N' nn' nl', f2_3 (.int L) S P F N (.bool nn) (.int v) lv (.bool b) (.int m) (.int li) (.int i) = f2_2 (.int L) S P' F' N' (.bool nn') lv (.bool b) (.int m) (.int (IntKind.wrap .i64 (li + 1))) ∧
      N'.rows = enc nl' ∧ Mid L S P' F' n l1 v l2 (len S) nl'
  | 0, i, P, F, N, nn, nl, hi, hN, h => by
    have : i = len S := by omega
    subst this
    rw [e2_3, ifF (by omega)]
    exact ⟨P, F, N, nn, nl, rfl, hN, h⟩
  | k + 1, i, P, F, N, nn, nl, hi, hN, h => by
    have hiS : i < len S := by omega
    have hAi := hG.a i hiS
    have hG1 := hG.l1
    have hG2 := hG.l2
    have hG3 := hG.s
    obtain ⟨v0, vL, vf, vn⟩ := h.lvs v (by simp)
    have hskip : ∀ {x : D}, (Alw L S i v → fd F (v + sAdd S i) = true) → x = f2_3 (.int L) S P F N (.bool nn) (.int v) lv (.bool b) (.int m) (.int li) (.int (IntKind.wrap .i64 ((i : Int) + 1))) →
        ∃ P' F' N' nn' nl', x = f2_2 (.int L) S P' F' N' (.bool nn') lv (.bool b) (.int m) (.int (IntKind.wrap .i64 (li + 1))) ∧ N'.rows = enc nl' ∧ Mid L S P' F' n l1 v l2 (len S) nl' := by
      intro x q e
      rw [e, wrap_i64 (by omega) (by omega), show (i : Int) + 1 = ((i + 1 : Nat) : Int) by omega]
      exact inner hG k (i + 1) P F N nn nl (by omega) hN (h.skip q)
    rw [e2_3, ifT (by omega), ifF (by omega)]
    have e8 : (cl S i 8).toInt = sAdd S i := rfl
    rw [e8, wrap_i64 (a := 0 - v) (by omega) (by omega), wrap_i64 (a := L - v) (by omega) (by omega), wrap_i64 (a := v + sAdd S i) (by omega) (by omega)]
    by_cases q1 : v < (cl S i 6).toInt
    · rw [ifT q1]
      exact hskip (fun ha => by have := ha.1; omega) rfl
    rw [ifF q1]
    by_cases q2 : (cl S i 7).toInt < v
    · rw [ifT q2]
      exact hskip (fun ha => by have := ha.2.1; omega) rfl
    rw [ifF q2]
    by_cases q3 : sAdd S i < 0 - v
    · rw [ifT q3]
      exact hskip (fun ha => by have := ha.2.2.1; omega) rfl
    rw [ifF q3]
    by_cases q4 : L - v < sAdd S i
    · rw [ifT q4]
      exact hskip (fun ha => by have := ha.2.2.2; omega) rfl
    rw [ifF q4]
    have ha : Alw L S i v := ⟨by omega, by omega, by omega, by omega⟩
    obtain ⟨w, hw⟩ : ∃ w, w = v + sAdd S i := ⟨_, rfl⟩
    have hlF := h.inv.lenF
    have hlP := h.inv.lenP
    rw [← hw, ifF (by omega), ifT (by omega)]
    cases hn : (cl F w 0).toBool with
    | true =>
      rw [cT rfl]
      exact hskip (fun _ => by rw [← hw]; exact hn) rfl
    | false =>
    rw [cF rfl, ifF (by omega), ifT (by omega)]
    have hcn := h.cn
    have hcl := cnt_le (F := F)
    have hNl : (len N : Int) < 1048576 := by
      have : len N = nl.length := by show N.rows.length = _; rw [hN, enc_len]
      omega
    have hgo : ∀ {X : D}, X.rows = encN (pa P v ++ [i]) → X.isNil = false →
        ∃ P' F' N' nn' nl', f2_3 (.int L) S (upd P w 0 X) (upd F w 0 (.bool true)) (ad N (.row [.int w])) (.bool false) (.int v) lv (.bool b) (.int m) (.int li) (.int (IntKind.wrap .i64 ((i : Int) + 1))) = f2_2 (.int L) S P' F' N' (.bool nn') lv (.bool b) (.int m) (.int (IntKind.wrap .i64 (li + 1))) ∧ N'.rows = enc nl' ∧ Mid L S P' F' n l1 v l2 (len S) nl' := by
      intro X hX hX'
      rw [wrap_i64 (by omega) (by omega), show (i : Int) + 1 = ((i + 1 : Nat) : Int) by omega]
      refine inner hG k (i + 1) _ _ _ false (nl ++ [w]) (by omega) ?_ (h.new hiS ha hw hn hX hX')
      show N.rows ++ [_] = _
      rw [hN, enc_snoc]
    obtain ⟨vp1, vp2, vp3, vp4⟩ := h.inv.path v v0 vL vf
    have hlen : len (cl P v 0) = n := by
      show (cl P v 0).rows.length = _
      rw [vp1, encN_len, vn]
    cases hnil : (cl P v 0).isNil with
    | true =>
      rw [cT rfl, ifT (by omega), ifT hNl]
      refine hgo ?_ rfl
      have e0 := h.inv.nil v v0 vL hnil
      rw [vp1] at e0
      rw [encN_snoc, e0]
      rfl
    | false =>
      have hct : len (ct emptyD (cl P v 0)) = n := by rw [len_ct, hlen, len_emptyD]; omega
      rw [cF rfl, ifT (by omega), ifT (by omega), ifT (by omega), ifT hNl]
      refine hgo ?_ rfl
      rw [encN_snoc, ← vp1]
      rfl
/-- at the head of a level: n levels are done -/
structure Lev (L : Int) (S P F : D) (n : Nat) (lv : List Int) : Prop where
  inv : Inv L S P F n
  le : ∀ u, 0 ≤ u → u ≤ L → fd F u = true → (pa P u).length ≤ n
  lvs : ∀ u ∈ lv, 0 ≤ u ∧ u ≤ L ∧ fd F u = true ∧ (pa P u).length = n
  lvc : ∀ u, 0 ≤ u → u ≤ L → fd F u = true → (pa P u).length = n → u ∈ lv
  lso : lv.Pairwise fun u u' => Llt (pa P u) (pa P u')
  cn : lv ≠ [] → n + 1 ≤ cnt F
  cl : lv.length ≤ cnt F
omit [While] in
theorem Lev.mid {L : Int} {S P F : D} {n : Nat} {v : Int} {l2 : List Int} (h : Lev L S P F n (v :: l2)) : Mid L S P F n [] v l2 0 [] where
  inv := h.inv
  lvs := h.lvs
  lvc := h.lvc
  lso := h.lso
  nls := fun w hw => (by cases hw)
  nlc := fun w h1 h2 h3 h4 => by have := h.le w h1 h2 h3; omega
  nso := .nil
  bnd := fun w hw => (by cases hw)
  don := fun w hw => (by cases hw)
  don2 := fun j hj => by omega
  cn := h.cn (by simp)
omit [While] in
theorem Mid.on {L : Int} {S P F : D} {n : Nat} {l1 l2 nl : List Int} {v v' : Int} (h : Mid L S P F n l1 v (v' :: l2) (len S) nl) : Mid L S P F n (l1 ++ [v]) v' l2 0 nl := by
  have hlt : Llt (pa P v) (pa P v') := by
    have := (List.pairwise_append.1 h.lso).2.1
    exact (List.pairwise_cons.1 this).1 v' (by simp)
  exact { h with
    lvs := by simpa using h.lvs
    lvc := by simpa using h.lvc
    lso := by simpa using h.lso
    bnd := fun w hw => (h.bnd w hw).trans hlt.snoc
    don := fun u hu j hj ha => by
      rcases List.mem_append.1 hu with q | q
      · exact h.don u q j hj ha
      · rw [List.mem_singleton.1 q] at ha ⊢
        exact h.don2 j hj ha
    don2 := fun j hj => by omega }
omit [While] in
theorem Mid.done {L : Int} {S P F : D} {n : Nat} {l1 nl : List Int} {v : Int} (hL : 0 ≤ L) (h : Mid L S P F n l1 v [] (len S) nl) (h0 : fd F 0 = true) : Lev L S P F (n + 1) nl := by
  have hcl : ∀ u ∈ l1 ++ [v], ∀ j, j < len S → Alw L S j u → fd F (u + sAdd S j) = true := by
    intro u hu j hj ha
    rcases List.mem_append.1 hu with q | q
    · exact h.don u q j hj ha
    · rw [List.mem_singleton.1 q] at ha ⊢
      exact h.don2 j hj ha
  have hcom : ∀ q w, Pa L S q 0 w → q.length ≤ n + 1 → fd F w = true := by
    intro q w hq hl
    rcases Nat.lt_or_ge n q.length with c | c
    · rcases snoc_cases q with e | ⟨r, j, e⟩
      · subst e; simp at c
      · subst e
        obtain ⟨u, g1, g2, g3, g4⟩ := hq.unsnoc
        have hr : r.length = n := by simp at c hl; omega
        have hu := g1.range (by omega) (by omega)
        have uf := h.inv.com r u g1 (by omega)
        obtain ⟨up1, up2, up3, up4⟩ := h.inv.path u hu.1 hu.2 uf
        rw [g4]
        rcases Nat.lt_or_ge (pa P u).length n with c2 | c2
        · exact h.inv.com _ _ (up2.snoc g2 g3) (by simp; omega)
        · have ul : (pa P u).length = n := by
            rcases up3 r g1 with c3 | ⟨c3, _⟩ <;> omega
          exact hcl u (h.lvc u hu.1 hu.2 uf ul) j g2 g3
    · exact h.inv.com q w hq c
  refine ⟨{ h.inv with path := ?_, com := hcom }, ?_, h.nls, h.nlc, h.nso, ?_, ?_⟩
  · intro w h1 h2 h3
    obtain ⟨a, b, c, d⟩ := h.inv.path w h1 h2 h3
    exact ⟨a, b, c, by omega⟩
  · intro u h1 h2 h3
    exact (h.inv.path u h1 h2 h3).2.2.2
  · intro hne
    have := h.cn
    have : 0 < nl.length := List.length_pos_iff.2 hne
    omega
  · have := h.cn
    omega
theorem middle {L : Int} {S lv : D} (hG : Good L S) {n : Nat} {b : Bool} (hlv : len lv < 1048576) :
    ∀ (l2 l1 : List Int) (v : Int) (P F N : D) (nn : Bool) (nl : List Int), lv.rows = enc (l1 ++ v :: l2) → N.rows = enc nl → Mid L S P F n l1 v l2 0 nl → fd F 0 = true →
    ∃ P' F' N' nn' nl', f2_2 (.int L) S P F N (.bool nn) lv (.bool b) (.int (len lv)) (.int (l1.length : Nat)) = f2_1 (.int L) S P' F' N' (.bool nn') ∧
      N'.rows = enc nl' ∧ Lev L S P' F' (n + 1) nl' ∧ fd F' 0 = true ∧ cnt F' ≥ n + 1 + nl'.length := by
  intro l2
  induction l2 with
  | nil =>
    intro l1 v P F N nn nl hl hN h h0
    have hll : len lv = l1.length + 1 := by show lv.rows.length = _; rw [hl, enc_len]; simp
    have hc : cl lv (l1.length : Nat) 0 = .int v := by
      show ((lv.rows[l1.length]?).getD default).cells.getD 0 default = _
      rw [hl]
      unfold enc
      rw [List.map_append, List.getElem?_append_right (by simp)]
      simp [D.cells]
    rw [e2_2, ifT (by omega), ifF (by omega), ifT (by omega), hc]
    obtain ⟨P', F', N', nn', nl', e, q1, q2⟩ := inner (lv := lv) (b := b) (m := len lv) (li := l1.length) hG (len S) 0 P F N nn nl (by omega) hN h
    have e' : f2_3 (.int L) S P F N (.bool nn) (.int v) lv (.bool b) (.int (len lv)) (.int (l1.length : Nat)) (.int 0) = _ := e
    have h0' : fd F' 0 = true := q2.inv.com [] 0 rfl (Nat.zero_le _)
    rw [e', wrap_i64 (by omega) (by omega), e2_2, ifF (by omega)]
    exact ⟨P', F', N', nn', nl', rfl, q1, q2.done (by have := hG.l1; omega) h0', h0', q2.cn⟩
  | cons v' l2 ih =>
    intro l1 v P F N nn nl hl hN h h0
    have hll : len lv = l1.length + 2 + l2.length := by show lv.rows.length = _; rw [hl, enc_len]; simp; omega
    have hc : cl lv (l1.length : Nat) 0 = .int v := by
      show ((lv.rows[l1.length]?).getD default).cells.getD 0 default = _
      rw [hl]
      unfold enc
      rw [List.map_append, List.getElem?_append_right (by simp)]
      simp [D.cells]
    rw [e2_2, ifT (by omega), ifF (by omega), ifT (by omega), hc]
    obtain ⟨P', F', N', nn', nl', e, q1, q2⟩ := inner (lv := lv) (b := b) (m := len lv) (li := l1.length) hG (len S) 0 P F N nn nl (by omega) hN h
    have e' : f2_3 (.int L) S P F N (.bool nn) (.int v) lv (.bool b) (.int (len lv)) (.int (l1.length : Nat)) (.int 0) = _ := e
    have h0' : fd F' 0 = true := q2.inv.com [] 0 rfl (Nat.zero_le _)
    rw [e', wrap_i64 (by omega) (by omega), show ((l1.length : Nat) : Int) + 1 = (((l1 ++ [v]).length : Nat) : Int) by simp]
    exact ih (l1 ++ [v]) v' P' F' N' nn' nl' (by rw [hl]; simp) q1 q2.on h0'
theorem outer {L : Int} {S : D} (hG : Good L S) : ∀ (m : Nat) (P F N : D) (nn : Bool) (n : Nat) (lv : List Int), L + 1 ≤ n + m → N.rows = enc lv → Lev L S P F n lv → fd F 0 = true →
    ∃ P' F' n', f2_1 (.int L) S P F N (.bool nn) = .row [.int 1, P', .bool false, F', .bool false, .int 0] ∧ Lev L S P' F' n' [] := by
  intro m
  induction m with
  | zero =>
    intro P F N nn n lv hm hN h h0
    have hl : len N = lv.length := by show N.rows.length = _; rw [hN, enc_len]
    cases lv with
    | nil =>
      rw [e2_1, ifF (by simp at hl; omega)]
      exact ⟨P, F, n, rfl, h⟩
    | cons v l2 =>
      have := h.cn (by simp)
      have := cnt_le (F := F)
      have := h.inv.lenF
      omega
  | succ m ih =>
    intro P F N nn n lv hm hN h h0
    have hl : len N = lv.length := by show N.rows.length = _; rw [hN, enc_len]
    cases lv with
    | nil =>
      rw [e2_1, ifF (by simp at hl; omega)]
      exact ⟨P, F, n, rfl, h⟩
    | cons v l2 =>
      have hc := h.cl
      have hle := cnt_le (F := F)
      have hF := h.inv.lenF
      have := hG.l2
      rw [e2_1, ifT (by simp at hl; omega)]
      obtain ⟨P', F', N', nn', nl', e, q1, q2, q3, q4⟩ := middle (b := nn) hG (n := n) (lv := N) (by omega) l2 [] v P F nilD true [] hN rfl h.mid h0
      have e' : f2_2 (.int L) S P F nilD (.bool true) N (.bool nn) (.int (len N)) (.int 0) = _ := e
      rw [e']
      exact ih P' F' N' nn' (n + 1) nl' (by omega) q1 q2 q3
/-- whether a step is out of range -/
theorem idx_loop {S : D} (hS : len S < 1000) : ∀ (k i : Nat), i + k = len S → (∀ j, j < i → -1000 ≤ sAdd S j ∧ sAdd S j ≤ 1000) →
    ∃ r : Int, f1_1 S (.int i) = .row [.int 1, .int r] ∧ (r < 0 → ∀ j, j < len S → -1000 ≤ sAdd S j ∧ sAdd S j ≤ 1000) ∧ (0 ≤ r → ∃ j, j < len S ∧ (sAdd S j < -1000 ∨ 1000 < sAdd S j))
  | 0, i, hi, h => by
    rw [e1_1, ifF (by omega)]
    exact ⟨-1, rfl, fun _ j hj => h j (by omega), fun q => by omega⟩
  | k + 1, i, hi, h => by
    rw [e1_1, ifT (by omega), ifF (by omega)]
    have e8 : (cl S i 8).toInt = sAdd S i := rfl
    rw [e8]
    by_cases q1 : sAdd S i < -1000
    · rw [ifT q1]
      exact ⟨i, rfl, fun q => by omega, fun _ => ⟨i, by omega, .inl q1⟩⟩
    rw [ifF q1]
    by_cases q2 : 1000 < sAdd S i
    · rw [ifT q2]
      exact ⟨i, rfl, fun q => by omega, fun _ => ⟨i, by omega, .inr q2⟩⟩
    rw [ifF q2, wrap_i64 (by omega) (by omega), show (i : Int) + 1 = ((i + 1 : Nat) : Int) by omega]
    refine idx_loop hS k (i + 1) (by omega) fun j hj => ?_
    rcases Nat.lt_or_ge j i with q | q
    · exact h j q
    · have : j = i := by omega
      subst this
      omega
/-- what search says -/
structure Found (L : Int) (S P F : D) : Prop where
  lenP : (len P : Int) = L + 1
  lenF : (len F : Int) = L + 1
  iff : ∀ w, 0 ≤ w → w ≤ L → (fd F w = true ↔ ∃ q, Pa L S q 0 w)
  path : ∀ w, 0 ≤ w → w ≤ L → fd F w = true → (cl P w 0).rows = encN (pa P w) ∧ Pa L S (pa P w) 0 w ∧ ∀ q, Pa L S q 0 w → Sle (pa P w) q
theorem search_good {L : Int} {S : D} (hG : Good L S) : ∃ P F, f2_0 (.int L) S = .row [.int 1, P, .bool false, F, .bool false, .int 0] ∧ Found L S P F := by
  have hG1 := hG.l1
  have hG2 := hG.l2
  obtain ⟨r, e, hr, hr'⟩ := idx_loop hG.s (len S) 0 (by omega) fun j hj => by omega
  have e : f1_1 S (.int 0) = .row [.int 1, .int r] := e
  have e0 : f1_0 S = .row [.int 1, .int r] := by rw [e1_0, e]
  have hneg : r < 0 := by
    rcases Int.lt_or_le r 0 with c | c
    · exact c
    · obtain ⟨j, hj, q⟩ := hr' c
      have := hG.a j hj
      omega
  rw [e2_0, ifF (by omega), ifF (by omega), e0, ifT (by rfl), ifT (by exact hneg), wrap_i64 (by omega) (by omega), ifF (by omega), ifT (by omega), ifT (by rw [len_rp]; omega)]
  have wd1 : Wd (rp (L + 1) (.row [nilD])) 1 := wd_rp rfl
  have wd2 : Wd (rp (L + 1) (.row [.bool false])) 1 := wd_rp rfl
  have hl2 : (0 : Int) < len (rp (L + 1) (.row [.bool false])) := by rw [len_rp]; omega
  have hcf : ∀ w, 0 ≤ w → w ≤ L → fd (rp (L + 1) (.row [.bool false])) w = false := fun w h1 h2 => by
    show (cl _ w 0).toBool = _
    rw [cl_rp h1 (by omega)]
    rfl
  have hc0 := cnt_up wd2 (Int.le_refl 0) hl2 (hcf 0 (by omega) (by omega))
  have hF : ∀ w, 0 ≤ w → w ≤ L → (fd (upd (rp (L + 1) (.row [.bool false])) 0 0 (.bool true)) w = true ↔ w = 0) := by
    intro w h1 h2
    show (cl (upd _ 0 0 _) w 0).toBool = true ↔ _
    rw [cl_upd wd2 (by omega) (by omega) hl2 h1]
    by_cases q : w = 0
    · rw [if_pos ⟨q, rfl⟩]
      exact ⟨fun _ => q, fun _ => rfl⟩
    · rw [if_neg (fun c => q c.1)]
      have := hcf w h1 h2
      exact ⟨fun c => Bool.noConfusion (this.symm.trans c), fun c => absurd c q⟩
  have hP : ∀ w, 0 ≤ w → w ≤ L → cl (rp (L + 1) (.row [nilD])) w 0 = nilD := fun w h1 h2 => by rw [cl_rp h1 (by omega)]; rfl
  have hp0 : pa (rp (L + 1) (.row [nilD])) 0 = [] := by
    show decN _ = _
    rw [hP 0 (by omega) (by omega)]
    rfl
  have hlev : Lev L S (rp (L + 1) (.row [nilD])) (upd (rp (L + 1) (.row [.bool false])) 0 0 (.bool true)) 0 [0] := by
    refine ⟨⟨wd1, wd_upd wd2, by rw [len_rp]; omega, by rw [len_upd, len_rp]; omega, ?_, ?_, ?_⟩, ?_, ?_, ?_, ?_, ?_, ?_⟩
    · intro w h1 h2 h3
      have := (hF w h1 h2).1 h3
      subst this
      rw [hP 0 h1 h2, hp0]
      exact ⟨rfl, rfl, fun q hq => by
        cases q with
        | nil => exact .inr ⟨rfl, trivial⟩
        | cons a q => exact .inl (by simp), by simp⟩
    · intro w h1 h2 _
      rw [hP w h1 h2]
      rfl
    · intro q w hq hl
      cases q with
      | nil =>
        have : (0 : Int) = w := hq
        subst this
        exact (hF 0 (by omega) (by omega)).2 rfl
      | cons a q => simp at hl
    · intro u h1 h2 h3
      have := (hF u h1 h2).1 h3
      subst this
      rw [hp0]
      exact Nat.le_refl _
    · intro u hu
      rw [List.mem_singleton.1 hu, hp0]
      exact ⟨by omega, by omega, (hF 0 (by omega) (by omega)).2 rfl, rfl⟩
    · intro u h1 h2 h3 _
      rw [(hF u h1 h2).1 h3]
      simp
    · simp
    · intro _
      rw [hc0]
      omega
    · rw [hc0]
      simp
  obtain ⟨P', F', n', e', hl⟩ := outer hG (L + 1).toNat _ _ (ad emptyD (.row [.int 0])) false 0 [0] (by omega) rfl hlev ((hF 0 (by omega) (by omega)).2 rfl)
  rw [e']
  have hall : ∀ (q : List Nat) (w : Int), Pa L S q 0 w → fd F' w = true := by
    intro q
    generalize hk : q.length = k
    induction k generalizing q with
    | zero => intro w hq; exact hl.inv.com q w hq (by omega)
    | succ k ih =>
      intro w hq
      rcases snoc_cases q with c | ⟨r, j, c⟩
      · subst c; simp at hk
      · subst c
        obtain ⟨u, g1, g2, g3, g4⟩ := hq.unsnoc
        have hu := g1.range (by omega) (by omega)
        have uf := ih r (by simp at hk; omega) u g1
        have up := hl.inv.path u hu.1 hu.2 uf
        have ul := hl.le u hu.1 hu.2 uf
        have une : (pa P' u).length ≠ n' := fun c => by have := hl.lvc u hu.1 hu.2 uf c; cases this
        rw [g4]
        exact hl.inv.com _ _ (up.2.1.snoc g2 g3) (by simp; omega)
  refine ⟨P', F', rfl, hl.inv.lenP, hl.inv.lenF, fun w h1 h2 => ⟨fun h => ⟨_, (hl.inv.path w h1 h2 h).2.1⟩, fun ⟨q, hq⟩ => hall q w hq⟩, fun w h1 h2 h3 => ?_⟩
  obtain ⟨a, b, c, _⟩ := hl.inv.path w h1 h2 h3
  exact ⟨a, b, c⟩
/-- what is not searched -/
theorem search_bad {L : Int} {S : D} (hS : len S < 1000) (hL : L < 1 ∨ 1000 < L ∨ ∃ j, j < len S ∧ (sAdd S j < -1000 ∨ 1000 < sAdd S j)) : f2_0 (.int L) S = .row [.int 1, nilD, .bool true, nilD, .bool true, .int 2] := by
  rw [e2_0]
  by_cases h1 : L < 1
  · rw [ifT h1]
  by_cases h2 : 1000 < L
  · rw [ifF h1, ifT h2]
  rcases hL with c | c | ⟨j, hj, c⟩
  · exact absurd c h1
  · exact absurd c h2
  obtain ⟨r, e, hr, hr'⟩ := idx_loop hS (len S) 0 (by omega) fun j hj => by omega
  have e : f1_1 S (.int 0) = .row [.int 1, .int r] := e
  have e0 : f1_0 S = .row [.int 1, .int r] := by rw [e1_0, e]
  have hneg : ¬ r < 0 := fun q => by have := hr q j hj; omega
  rw [ifF h1, ifF h2, e0, ifT (by rfl), ifF (by exact hneg)]
end
end Go.CR
namespace Go.CR
open Go.AE
/-! COUNTERREACHES: the reference's distances -/
abbrev dv (O : D) (w : Int) : Int := (cl O w 0).toInt
def cntD (O : D) : Nat := O.rows.countP fun r => decide (0 ≤ (r.cells.getD 0 default).toInt)
theorem cntD_le {O : D} : cntD O ≤ len O := List.countP_le_length
theorem cntD_up {O : D} {w x : Int} (h : Wd O 1) (h0 : 0 ≤ w) (hw : w < len O) (hf : dv O w < 0) (hx : 0 ≤ x) : cntD (upd O w 0 (.int x)) = cntD O + 1 := by
  have hw2 : w.toNat < O.rows.length := by have : len O = O.rows.length := rfl; omega
  show (O.rows.modify w.toNat _).countP _ = _
  refine countP_mod hw2 ?_ ?_
  · have : cl O w 0 = (O.rows[w.toNat]).cells.getD 0 default := by
      show (O.rows[w.toNat]?.getD default).cells.getD 0 default = _
      rw [List.getElem?_eq_getElem hw2]
      rfl
    rw [← this]
    exact decide_eq_false (by show ¬ 0 ≤ dv O w; omega)
  · obtain ⟨cs, hc, hn⟩ := h _ (List.getElem_mem hw2)
    rw [hc]
    cases cs with
    | nil => cases hn
    | cons y ys => exact decide_eq_true hx
/-- d is the distance of w -/
def IsD (L : Int) (S : D) (w d : Int) : Prop := (∃ q : List Nat, Pa L S q 0 w ∧ (q.length : Int) = d) ∧ ∀ q, Pa L S q 0 w → d ≤ (q.length : Nat)
structure Dis (L : Int) (S O : D) (n : Nat) : Prop where
  wd : Wd O 1
  len : (len O : Int) = L + 1
  val : ∀ w, 0 ≤ w → w ≤ L → dv O w = -1 ∨ 0 ≤ dv O w ∧ dv O w ≤ n + 1 ∧ IsD L S w (dv O w)
  com : ∀ q w, Pa L S q 0 w → q.length ≤ n → 0 ≤ dv O w
  int : ∀ w, 0 ≤ w → w ≤ L → cl O w 0 = .int (dv O w)
/-- in the midst of a round: the values below v are done -/
structure Rnd (L : Int) (S O : D) (n : Nat) (c : Bool) (v : Int) : Prop where
  dis : Dis L S O n
  chg : c = false → ∀ w, 0 ≤ w → w ≤ L → dv O w ≤ n
  don : ∀ u, 0 ≤ u → u < v → dv O u = n → ∀ j, j < len S → Alw L S j u → 0 ≤ dv O (u + sAdd S j)
  cn : n + 1 + c.toNat ≤ cntD O
section
variable [While]
theorem inner5 {L : Int} {S : D} (hG : Good L S) {n : Nat} {v : Int} (h0 : 0 ≤ v) (hvL : v ≤ L) :
    ∀ (k i : Nat) (O : D) (c : Bool), i + k = len S → Rnd L S O n c v → (dv O v = n → ∀ j, j < i → Alw L S j v → 0 ≤ dv O (v + sAdd S j)) →
    ∃ O' c', f5_4 (.int L) S O (.int n) (.bool c) (.int v) (.int i) = f5_3 (.int L) S O' (.int n) (.bool c') (.int (v + 1)) ∧ Rnd L S O' n c' (v + 1)
  | 0, i, O, c, hi, h, hd => by
    have hG2 := hG.l2
    rw [e5_4, ifF (by omega), wrap_i64 (by omega) (by omega)]
    refine ⟨O, c, rfl, { h with don := fun u hu hu' he j hj ha => ?_ }⟩
    rcases Int.lt_or_le u v with q | q
    · exact h.don u hu q he j hj ha
    · have : u = v := by omega
      subst this
      exact hd he j (by omega) ha
  | k + 1, i, O, c, hi, h, hd => by
    have hiS : i < len S := by omega
    have hAi := hG.a i hiS
    have hG1 := hG.l1
    have hG2 := hG.l2
    have hG3 := hG.s
    have hlen := h.dis.len
    have e8 : (cl S i 8).toInt = sAdd S i := rfl
    rw [e5_4, ifT (by omega), ifF (by omega), ifT (by omega)]
    by_cases hn : dv O v = n
    rotate_left
    · rw [ifF hn, wrap_i64 (by omega) (by omega)]
      refine ⟨O, c, rfl, { h with don := fun u hu hu' he j hj ha => ?_ }⟩
      rcases Int.lt_or_le u v with q | q
      · exact h.don u hu q he j hj ha
      · have : u = v := by omega
        subst this
        exact absurd he hn
    rw [ifT hn, ifF (by omega), e8, wrap_i64 (a := v + sAdd S i) (by omega) (by omega), wrap_i64 (a := (i : Int) + 1) (by omega) (by omega), show (i : Int) + 1 = ((i + 1 : Nat) : Int) by omega]
    have hskip : ∀ {x : D}, (Alw L S i v → 0 ≤ dv O (v + sAdd S i)) → x = f5_4 (.int L) S O (.int n) (.bool c) (.int v) (.int (i + 1 : Nat)) →
        ∃ O' c', x = f5_3 (.int L) S O' (.int n) (.bool c') (.int (v + 1)) ∧ Rnd L S O' n c' (v + 1) := by
      intro x q e
      rw [e]
      refine inner5 hG h0 hvL k (i + 1) O c (by omega) h fun he j hj ha => ?_
      rcases Nat.lt_or_ge j i with c2 | c2
      · exact hd he j c2 ha
      · have : j = i := by omega
        subst this
        exact q ha
    by_cases q1 : v < (cl S i 6).toInt
    · rw [ifT q1]
      exact hskip (fun ha => by have := ha.1; omega) rfl
    rw [ifF q1]
    by_cases q2 : (cl S i 7).toInt < v
    · rw [ifT q2]
      exact hskip (fun ha => by have := ha.2.1; omega) rfl
    rw [ifF q2, ifF (by omega), ifF (by omega)]
    by_cases q3 : v + sAdd S i < 0
    · rw [ifT q3]
      exact hskip (fun ha => by have := ha.2.2.1; omega) rfl
    rw [ifF q3]
    by_cases q4 : L < v + sAdd S i
    · rw [ifT q4]
      exact hskip (fun ha => by have := ha.2.2.2; omega) rfl
    rw [ifF q4, ifT (by omega)]
    have ha : Alw L S i v := ⟨by omega, by omega, by omega, by omega⟩
    obtain ⟨w, hw⟩ : ∃ w, w = v + sAdd S i := ⟨_, rfl⟩
    rw [← hw]
    by_cases q5 : dv O w < 0
    rotate_left
    · rw [ifF q5]
      exact hskip (fun _ => by rw [← hw]; omega) rfl
    have hcn := h.cn
    have hcl := cntD_le (O := O)
    rw [ifT q5, wrap_i64 (by omega) (by omega)]
    have hw0 : 0 ≤ w := by omega
    have hwl : w < len O := by omega
    have ff : ∀ u, 0 ≤ u → dv (upd O w 0 (.int ((n : Int) + 1))) u = if u = w then (n : Int) + 1 else dv O u := by
      intro u hu
      show (cl (upd O w 0 _) u 0).toInt = _
      rw [cl_upd h.dis.wd (by omega) hw0 hwl hu]
      by_cases q : u = w
      · rw [if_pos ⟨q, rfl⟩, if_pos q]; rfl
      · rw [if_neg (fun c => q c.1), if_neg q]
    have fm : ∀ u, 0 ≤ u → 0 ≤ dv O u → 0 ≤ dv (upd O w 0 (.int ((n : Int) + 1))) u := by
      intro u hu hp
      rw [ff u hu]
      split <;> omega
    have fn : ∀ u, 0 ≤ u → dv (upd O w 0 (.int ((n : Int) + 1))) u = n → dv O u = n := by
      intro u hu hp
      rw [ff u hu] at hp
      split at hp
      · omega
      · exact hp
    obtain ⟨p, hp, hpl⟩ : ∃ p : List Nat, Pa L S p 0 v ∧ (p.length : Int) = n := by
      rcases h.dis.val v h0 hvL with q | ⟨_, _, q, _⟩
      · omega
      · rw [hn] at q
        exact q
    have hD : IsD L S w (n + 1) := by
      refine ⟨⟨p ++ [i], ?_, by simp; omega⟩, fun q hq => ?_⟩
      · rw [hw]; exact hp.snoc hiS ha
      · rcases Nat.lt_or_ge n q.length with q2 | q2
        · omega
        · have := h.dis.com q w hq q2
          omega
    refine inner5 hG h0 hvL k (i + 1) _ true (by omega) ⟨⟨wd_upd h.dis.wd, by rw [len_upd]; exact hlen, ?_, ?_, ?_⟩, ?_, ?_, ?_⟩ ?_
    · intro u hu hu'
      rw [ff u hu]
      split
      · rename_i q
        subst q
        exact .inr ⟨by omega, by omega, hD⟩
      · exact h.dis.val u hu hu'
    · intro q u hq hl
      have hu := hq.range (by omega) (by omega)
      exact fm u hu.1 (h.dis.com q u hq hl)
    · intro u hu hu'
      show cl _ u 0 = .int (cl _ u 0).toInt
      rw [cl_upd h.dis.wd (by omega) hw0 hwl hu]
      split
      · rfl
      · exact h.dis.int u hu hu'
    · intro q; cases q
    · intro u hu hu' he j hj hal
      exact fm _ (by have := hal.2.2.1; omega) (h.don u hu hu' (fn u hu he) j hj hal)
    · rw [cntD_up h.dis.wd hw0 hwl q5 (by omega)]
      show n + 1 + 1 ≤ _
      omega
    · intro he j hj hal
      have hz : 0 ≤ v + sAdd S j := hal.2.2.1
      rcases Nat.lt_or_ge j i with q | q
      · exact fm _ hz (hd hn j q hal)
      · have : j = i := by omega
        subst this
        rw [← hw, ff w hw0, if_pos rfl]
        omega
theorem round5 {L : Int} {S : D} (hG : Good L S) {n : Nat} : ∀ (k : Nat) (v : Int) (O : D) (c : Bool), v + k = L + 1 → 0 ≤ v → Rnd L S O n c v →
    ∃ O' c', f5_3 (.int L) S O (.int n) (.bool c) (.int v) = f5_2 (.int L) S O' (.int (n + 1 : Nat)) (.bool c') ∧ Rnd L S O' n c' (L + 1)
  | 0, v, O, c, hv, h0, h => by
    have : v = L + 1 := by omega
    subst this
    have hcn := h.cn
    have hcl := cntD_le (O := O)
    have := h.dis.len
    have := hG.l2
    rw [e5_3, ifT (by omega), wrap_i64 (by omega) (by omega)]
    exact ⟨O, c, rfl, h⟩
  | k + 1, v, O, c, hv, h0, h => by
    rw [e5_3, ifF (by omega)]
    obtain ⟨O', c', e, h'⟩ := inner5 hG h0 (by omega) (len S) 0 O c (by omega) h (fun _ j hj => by omega)
    have e : f5_4 (.int L) S O (.int n) (.bool c) (.int v) (.int 0) = _ := e
    rw [e]
    exact round5 hG k (v + 1) O' c' (by omega) (by omega) h'
/-- what distances says -/
structure Dist (L : Int) (S O : D) : Prop where
  len : (len O : Int) = L + 1
  val : ∀ w, 0 ≤ w → w ≤ L → dv O w = -1 ∧ (∀ q, ¬ Pa L S q 0 w) ∨ 0 ≤ dv O w ∧ IsD L S w (dv O w)
  int : ∀ w, 0 ≤ w → w ≤ L → cl O w 0 = .int (dv O w)
  le : ∀ w, 0 ≤ w → w ≤ L → dv O w ≤ L
omit [While] in
theorem Rnd.next {L : Int} {S O : D} {n : Nat} {c : Bool} (h : Rnd L S O n c (L + 1)) (hL : 0 ≤ L) : ∀ q w, Pa L S q 0 w → q.length ≤ n + 1 → 0 ≤ dv O w := by
  intro q w hq hl
  rcases Nat.lt_or_ge n q.length with c | c
  · rcases snoc_cases q with e | ⟨r, j, e⟩
    · subst e; simp at c
    · subst e
      obtain ⟨u, g1, g2, g3, g4⟩ := hq.unsnoc
      have hr : r.length = n := by simp at c hl; omega
      have hu := g1.range (by omega) (by omega)
      have uf := h.dis.com r u g1 (by omega)
      rcases h.dis.val u hu.1 hu.2 with q1 | ⟨q1, q2, ⟨p, p1, p2⟩, q3⟩
      · omega
      · rw [g4]
        have := q3 r g1
        by_cases q4 : dv O u = n
        · exact h.don u hu.1 (by omega) q4 j g2 g3
        · exact h.dis.com _ _ (p1.snoc g2 g3) (by simp; omega)
  · exact h.dis.com q w hq c
theorem outer5 {L : Int} {S : D} (hG : Good L S) : ∀ (m n : Nat) (O : D), L + 1 ≤ n + m → Rnd L S O n false 0 → n + 1 ≤ cntD O →
    ∃ O', f5_2 (.int L) S O (.int n) (.bool true) = .row [.int 1, O'] ∧ Dist L S O'
  | m, n, O, hm, h, hc => by
    have hG1 := hG.l1
    rw [e5_2, cT rfl]
    obtain ⟨O', c', e, h'⟩ := round5 hG (L + 1).toNat 0 O false (by omega) (by omega) h
    rw [e]
    cases c' with
    | false =>
      rw [e5_2, cF rfl]
      have hle := h'.chg rfl
      have hn := h'.next (by omega)
      have hall : ∀ (k : Nat) (q : List Nat) (w : Int), q.length = k → Pa L S q 0 w → 0 ≤ dv O' w := by
        intro k
        induction k with
        | zero => intro q w hk hq; exact hn q w hq (by omega)
        | succ k ih =>
          intro q w hk hq
          rcases snoc_cases q with c | ⟨r, j, c⟩
          · subst c; simp at hk
          · subst c
            obtain ⟨u, g1, g2, g3, g4⟩ := hq.unsnoc
            have hu := g1.range (by omega) (by omega)
            have uf := ih r u (by simp at hk; omega) g1
            rcases h'.dis.val u hu.1 hu.2 with q1 | ⟨q1, q2, ⟨p, p1, p2⟩, q3⟩
            · omega
            · have := hle u hu.1 hu.2
              rw [g4]
              exact hn _ _ (p1.snoc g2 g3) (by simp; omega)
      refine ⟨O', rfl, h'.dis.len, fun w h1 h2 => ?_, h'.dis.int, fun w h1 h2 => (by have := hle w h1 h2; have := h'.cn; have := cntD_le (O := O'); have := h'.dis.len; simp at *; omega)⟩
      rcases h'.dis.val w h1 h2 with q | ⟨q1, q2, q3⟩
      · exact .inl ⟨q, fun r hr => by have := hall _ r w rfl hr; omega⟩
      · exact .inr ⟨q1, q3⟩
    | true =>
      have hcn : n + 1 + 1 ≤ cntD O' := h'.cn
      have hcl := cntD_le (O := O')
      have := h'.dis.len
      cases m with
      | zero => omega
      | succ m =>
        refine outer5 hG m (n + 1) O' (by omega) ⟨⟨h'.dis.wd, h'.dis.len, fun w h1 h2 => ?_, h'.next (by omega), h'.dis.int⟩, fun _ w h1 h2 => ?_, fun u hu hu' => by omega, by simp; omega⟩ (by omega)
        · rcases h'.dis.val w h1 h2 with q | ⟨q1, q2, q3⟩
          · exact .inl q
          · exact .inr ⟨q1, by omega, q3⟩
        · rcases h'.dis.val w h1 h2 with q | ⟨q1, q2, q3⟩ <;> omega
theorem init5 {L : Int} {S : D} (hG : Good L S) : ∀ (k : Nat) (v : Int) (O : D), v + k = L + 1 → 1 ≤ v → Wd O 1 → (len O : Int) = L + 1 → cl O 0 0 = .int 0 → (∀ w, 1 ≤ w → w < v → cl O w 0 = .int (-1)) →
    ∃ O', f5_1 (.int L) S O (.int v) = f5_2 (.int L) S O' (.int 0) (.bool true) ∧ Wd O' 1 ∧ (len O' : Int) = L + 1 ∧ cl O' 0 0 = .int 0 ∧ ∀ w, 1 ≤ w → w ≤ L → cl O' w 0 = .int (-1)
  | 0, v, O, hv, h1, hw, hl, h0, hd => by
    rw [e5_1, ifT (by omega)]
    exact ⟨O, rfl, hw, hl, h0, fun w a b => hd w a (by omega)⟩
  | k + 1, v, O, hv, h1, hw, hl, h0, hd => by
    have := hG.l2
    rw [e5_1, ifF (by omega), ifF (by omega), ifT (by omega), wrap_i64 (by omega) (by omega)]
    refine init5 hG k (v + 1) _ (by omega) (by omega) (wd_upd hw) (by rw [len_upd]; exact hl) ?_ fun w a b => ?_
    · rw [cl_upd_ne hw (by omega) (by omega) (by omega) (by omega) (by omega)]
      exact h0
    · rw [cl_upd hw (by omega) (by omega) (by omega) (by omega)]
      by_cases q : w = v
      · rw [if_pos ⟨q, rfl⟩]
      · rw [if_neg (fun c => q c.1)]
        exact hd w a (by omega)
theorem dist_eq {L : Int} {S : D} (hG : Good L S) : ∃ O, f5_0 (.int L) S = .row [.int 1, O] ∧ Dist L S O := by
  have h1 := hG.l1
  have h2 := hG.l2
  rw [e5_0, wrap_i64 (by omega) (by omega), ifF (by omega), ifT (by omega)]
  obtain ⟨O, e, q1, q2, q3, q4⟩ := init5 hG (L.toNat) 1 (rp (L + 1) (.row [.int 0])) (by omega) (by omega) (wd_rp rfl) (by rw [len_rp]; omega) (by rw [cl_rp (by omega) (by omega)]; rfl) (fun w a b => by omega)
  rw [e]
  have d0 : dv O 0 = 0 := by show (cl O 0 0).toInt = 0; rw [q3]; rfl
  have dn : ∀ w, 1 ≤ w → w ≤ L → dv O w = -1 := fun w a b => by show (cl O w 0).toInt = -1; rw [q4 w a b]; rfl
  refine outer5 hG (L + 1).toNat 0 O (by omega) ⟨⟨q1, q2, fun w a b => ?_, fun q w hq hl => ?_, fun w a b => ?_⟩, fun _ w a b => ?_, fun u a b => by omega, ?_⟩ ?_
  · by_cases q : w = 0
    · subst q
      rw [d0]
      exact .inr ⟨by omega, by omega, ⟨[], rfl, rfl⟩, fun q _ => by omega⟩
    · exact .inl (dn w (by omega) b)
  · cases q with
    | nil =>
      have : (0 : Int) = w := hq
      subst this
      omega
    | cons a q => simp at hl
  · by_cases q : w = 0
    · subst q
      rw [d0, q3]
    · rw [dn w (by omega) b, q4 w (by omega) b]
  · by_cases q : w = 0
    · subst q; omega
    · have := dn w (by omega) b
      omega
  all_goals
    show _ ≤ O.rows.countP _
    have hne : 0 < O.rows.length := by have : len O = O.rows.length := rfl; omega
    refine List.countP_pos_iff.2 ⟨_, List.getElem_mem hne, decide_eq_true ?_⟩
    have e : cl O 0 0 = (O.rows[0]).cells.getD 0 default := by
      show (O.rows[0]?.getD default).cells.getD 0 default = _
      rw [List.getElem?_eq_getElem hne]
      rfl
    rw [← e, q3]
    exact Int.le_refl 0
/-- what valid says -/
theorem valid_loop {L : Int} {S : D} (hS : len S < 1000) : ∀ (k i : Nat), i + k = len S → (∀ j, j < i → -1000 ≤ sAdd S j ∧ sAdd S j ≤ 1000) →
    (f4_1 (.int L) S (.int i) = .row [.int 1, .bool true] ∧ Good L S) ∨ (f4_1 (.int L) S (.int i) = .row [.int 1, .bool false] ∧ (L < 1 ∨ 1000 < L ∨ ∃ j, j < len S ∧ (sAdd S j < -1000 ∨ 1000 < sAdd S j)))
  | 0, i, hi, h => by
    rw [e4_1, ifF (by omega)]
    by_cases q1 : L < 1
    · rw [ifT q1]; exact .inr ⟨rfl, .inl q1⟩
    by_cases q2 : 1000 < L
    · rw [ifF q1, decide_eq_true q2]; exact .inr ⟨rfl, .inr (.inl q2)⟩
    · rw [ifF q1, decide_eq_false q2]; exact .inl ⟨rfl, by omega, by omega, hS, fun j hj => h j (by omega)⟩
  | k + 1, i, hi, h => by
    have e8 : (cl S i 8).toInt = sAdd S i := rfl
    rw [e4_1, ifT (by omega), ifF (by omega), e8]
    by_cases q1 : sAdd S i < -1000
    · rw [ifT q1]; exact .inr ⟨rfl, .inr (.inr ⟨i, by omega, .inl q1⟩)⟩
    by_cases q2 : 1000 < sAdd S i
    · rw [ifF q1, ifT q2]; exact .inr ⟨rfl, .inr (.inr ⟨i, by omega, .inr q2⟩)⟩
    rw [ifF q1, ifF q2, wrap_i64 (by omega) (by omega), show (i : Int) + 1 = ((i + 1 : Nat) : Int) by omega]
    refine valid_loop hS k (i + 1) (by omega) fun j hj => ?_
    rcases Nat.lt_or_ge j i with q | q
    · exact h j q
    · have : j = i := by omega
      subst this
      omega
theorem valid_eq {L : Int} {S : D} (hS : len S < 1000) : (f4_0 (.int L) S = .row [.int 1, .bool true] ∧ Good L S) ∨ (f4_0 (.int L) S = .row [.int 1, .bool false] ∧ (L < 1 ∨ 1000 < L ∨ ∃ j, j < len S ∧ (sAdd S j < -1000 ∨ 1000 < sAdd S j))) := by
  rw [e4_0]
  exact valid_loop hS (len S) 0 (by omega) fun j hj => by omega
end
end Go.CR
namespace Go.CR
open Go.AE
/-! COUNTERREACHES: the reference's leads and Path -/
def Ex (L : Int) (S : D) (z : Int) (k : Nat) (v : Int) : Prop := ∃ q, Pa L S q v z ∧ q.length = k
theorem Ex.step {L : Int} {S : D} {z : Int} {k : Nat} {v : Int} : Ex L S z (k + 1) v ↔ ∃ j, j < len S ∧ Alw L S j v ∧ Ex L S z k (v + sAdd S j) := by
  constructor
  · rintro ⟨q, hq, hl⟩
    cases q with
    | nil => cases hl
    | cons j q => exact ⟨j, hq.1, hq.2.1, q, hq.2.2, by simpa using hl⟩
  · rintro ⟨j, h1, h2, q, hq, hl⟩
    exact ⟨j :: q, ⟨h1, h2, hq⟩, by simp [hl]⟩
/-- a row of leads -/
def RowOK (L : Int) (S : D) (z : Int) (k : Nat) (R : D) : Prop := (len R : Int) = L + 1 ∧ ∀ v, 0 ≤ v → v ≤ L → ((cl R v 0).toBool = true ↔ Ex L S z k v)
structure Tab (L : Int) (S : D) (z : Int) (n : Nat) (T : D) : Prop where
  len : len T = n
  row : ∀ k : Nat, k < n → RowOK L S z k (cl T k 0)
structure Nx (L : Int) (S : D) (z : Int) (k : Nat) (v : Int) (R : D) : Prop where
  wd : Wd R 1
  len : (len R : Int) = L + 1
  lo : ∀ u, 0 ≤ u → u < v → ((cl R u 0).toBool = true ↔ Ex L S z (k + 1) u)
  hi : ∀ u, v < u → u ≤ L → (cl R u 0).toBool = false
section
variable [While]
theorem inner7 {L : Int} {S : D} (hG : Good L S) {z : Int} {k : Nat} {T : D} (hk : k < 2000) (hT : Tab L S z (k + 1) T) {v : Int} (h0 : 0 ≤ v) (hvL : v ≤ L) {n : Int} {b : Bool} :
    ∀ (m i : Nat) (R : D), i + m = len S → Nx L S z k v R → ((cl R v 0).toBool = true ↔ ∃ j, j < i ∧ Alw L S j v ∧ Ex L S z k (v + sAdd S j)) →
    ∃ R', f7_3 (.int L) S (.int n) T (.bool b) (.int (k + 1 : Nat)) R (.int v) (.int i) nilD = f7_2 (.int L) S (.int n) T (.bool b) (.int (k + 1 : Nat)) R' (.int (v + 1)) nilD ∧ Nx L S z k v R' ∧ ((cl R' v 0).toBool = true ↔ Ex L S z (k + 1) v)
  | 0, i, R, hi, h, hv => by
    have := hG.l2
    rw [e7_3, ifF (by omega), wrap_i64 (by omega) (by omega)]
    refine ⟨R, rfl, h, hv.trans (Iff.trans ?_ Ex.step.symm)⟩
    have : i = AE.len S := by omega
    subst this
    rfl
  | m + 1, i, R, hi, h, hv => by
    have hiS : i < AE.len S := by omega
    have hAi := hG.a i hiS
    have hG1 := hG.l1
    have hG2 := hG.l2
    have hG3 := hG.s
    have hlen := h.len
    have hTl := hT.len
    have hrow := hT.row k (by omega)
    have hrl := hrow.1
    have e8 : (cl S i 8).toInt = sAdd S i := rfl
    have hgo : ∀ {X x : D}, (X.toBool = true ↔ ∃ j, j < i + 1 ∧ Alw L S j v ∧ Ex L S z k (v + sAdd S j)) →
        x = f7_3 (.int L) S (.int n) T (.bool b) (.int (k + 1 : Nat)) (upd R v 0 X) (.int v) (.int (i + 1 : Nat)) nilD →
        ∃ R', x = f7_2 (.int L) S (.int n) T (.bool b) (.int (k + 1 : Nat)) R' (.int (v + 1)) nilD ∧ Nx L S z k v R' ∧ ((cl R' v 0).toBool = true ↔ Ex L S z (k + 1) v) := by
      intro X x hX e
      rw [e]
      refine inner7 hG hk hT h0 hvL m (i + 1) _ (by omega) ⟨wd_upd h.wd, by rw [len_upd]; exact hlen, fun u h1 h2 => ?_, fun u h1 h2 => ?_⟩ ?_
      · rw [cl_upd_ne h.wd (by omega) h0 (by omega) h1 (by omega)]
        exact h.lo u h1 h2
      · rw [cl_upd_ne h.wd (by omega) h0 (by omega) (by omega) (by omega)]
        exact h.hi u h1 h2
      · rw [cl_upd_same h.wd (by omega) h0 (by omega)]
        exact hX
    have hno : ∀ {x : D}, ¬ (Alw L S i v ∧ Ex L S z k (v + sAdd S i)) → x = (cond (cl R v 0).toBool (f7_3 (.int L) S (.int n) T (.bool b) (.int (k + 1 : Nat)) (upd R v 0 (.bool true)) (.int v) (.int (i + 1 : Nat)) nilD) (f7_3 (.int L) S (.int n) T (.bool b) (.int (k + 1 : Nat)) (upd R v 0 (.bool false)) (.int v) (.int (i + 1 : Nat)) nilD)) →
        ∃ R', x = f7_2 (.int L) S (.int n) T (.bool b) (.int (k + 1 : Nat)) R' (.int (v + 1)) nilD ∧ Nx L S z k v R' ∧ ((cl R' v 0).toBool = true ↔ Ex L S z (k + 1) v) := by
      intro x hq e
      have hiff : (cl R v 0).toBool = true ↔ ∃ j, j < i + 1 ∧ Alw L S j v ∧ Ex L S z k (v + sAdd S j) := by
        refine hv.trans ⟨fun ⟨j, a, b⟩ => ⟨j, by omega, b⟩, fun ⟨j, a, b⟩ => ⟨j, ?_, b⟩⟩
        rcases Nat.lt_or_ge j i with c | c
        · exact c
        · have : j = i := by omega
          subst this
          exact absurd b hq
      cases q : (cl R v 0).toBool with
      | true =>
        rw [q, cT rfl] at e
        exact hgo (X := .bool true) (by rw [← hiff, q]; rfl) e
      | false =>
        rw [q, cF rfl] at e
        exact hgo (X := .bool false) (by rw [← hiff, q]; rfl) e
    rw [e7_3, ifT (by omega), ifF (by omega), e8, wrap_i64 (a := v + sAdd S i) (by omega) (by omega), wrap_i64 (a := (i : Int) + 1) (by omega) (by omega), show (i : Int) + 1 = ((i + 1 : Nat) : Int) by omega]
    by_cases q1 : v < (cl S i 6).toInt
    · rw [ifT q1, ifF (by omega), ifT (by omega)]
      exact hno (fun ha => by have := ha.1.1; omega) rfl
    rw [ifF q1]
    by_cases q2 : (cl S i 7).toInt < v
    · rw [ifT q2, ifF (by omega), ifT (by omega)]
      exact hno (fun ha => by have := ha.1.2.1; omega) rfl
    rw [ifF q2, ifF (by omega), ifF (by omega)]
    by_cases q3 : v + sAdd S i < 0
    · rw [ifT q3, ifF (by omega), ifT (by omega)]
      exact hno (fun ha => by have := ha.1.2.2.1; omega) rfl
    rw [ifF q3]
    by_cases q4 : L < v + sAdd S i
    · rw [ifT q4, ifF (by omega), ifT (by omega)]
      exact hno (fun ha => by have := ha.1.2.2.2; omega) rfl
    rw [ifF q4, ifF (by omega), ifT (by omega)]
    have ha : Alw L S i v := ⟨by omega, by omega, by omega, by omega⟩
    cases q5 : (cl R v 0).toBool with
    | true =>
      rw [cT rfl]
      refine hgo (X := .bool true) ⟨fun _ => ?_, fun _ => rfl⟩ rfl
      obtain ⟨j, a, b⟩ := hv.1 q5
      exact ⟨j, by omega, b⟩
    | false =>
      rw [cF rfl, wrap_i64 (a := ((k + 1 : Nat) : Int) - 1) (by omega) (by omega), show ((k + 1 : Nat) : Int) - 1 = (k : Nat) by omega, ifF (by omega), ifT (by omega), ifT (by omega)]
      refine hgo ((hrow.2 _ (by omega) (by omega)).trans ⟨fun q => ⟨i, by omega, ha, q⟩, fun ⟨j, a, b, c⟩ => ?_⟩) rfl
      rcases Nat.lt_or_ge j i with d | d
      · have := hv.2 ⟨j, d, b, c⟩
        rw [q5] at this
        cases this
      · have : j = i := by omega
        subst this
        exact c
theorem row7 {L : Int} {S : D} (hG : Good L S) {z : Int} {k : Nat} {T : D} (hk : k < 2000) (hT : Tab L S z (k + 1) T) {n : Int} :
    ∀ (m : Nat) (v : Int) (R : D), v + m = L + 1 → 0 ≤ v → Wd R 1 → (len R : Int) = L + 1 → (∀ u, 0 ≤ u → u < v → ((cl R u 0).toBool = true ↔ Ex L S z (k + 1) u)) → (∀ u, v ≤ u → u ≤ L → (cl R u 0).toBool = false) →
    ∃ T', f7_2 (.int L) S (.int n) T (.bool false) (.int (k + 1 : Nat)) R (.int v) nilD = f7_1 (.int L) S (.int n) T' (.int (k + 2 : Nat)) nilD ∧ Tab L S z (k + 2) T'
  | 0, v, R, hv, h0, hw, hl, hlo, hhi => by
    have hTl := hT.len
    rw [e7_2, ifT (by omega), ifT (by omega), wrap_i64 (by omega) (by omega), show ((k + 1 : Nat) : Int) + 1 = (k + 2 : Nat) by omega]
    refine ⟨_, rfl, by rw [len_ad, hTl], fun j hj => ?_⟩
    rw [cl_ad (by omega)]
    split
    · have : j = k + 1 := by omega
      subst this
      exact ⟨hl, fun u h1 h2 => hlo u h1 (by omega)⟩
    · exact hT.row j (by omega)
  | m + 1, v, R, hv, h0, hw, hl, hlo, hhi => by
    rw [e7_2, ifF (by omega)]
    obtain ⟨R', e, h, hx⟩ := inner7 (n := n) (b := false) hG hk hT h0 (by omega) (len S) 0 R (by omega) ⟨hw, hl, hlo, fun u h1 h2 => hhi u (by omega) h2⟩ (by
      rw [hhi v (by omega) (by omega)]
      exact ⟨fun q => (by cases q), fun ⟨j, a, _⟩ => by omega⟩)
    have e : f7_3 (.int L) S (.int n) T (.bool false) (.int (k + 1 : Nat)) R (.int v) (.int 0) nilD = _ := e
    rw [e]
    refine row7 hG hk hT m (v + 1) R' (by omega) (by omega) h.wd h.len (fun u h1 h2 => ?_) (fun u h1 h2 => h.hi u (by omega) h2)
    rcases Int.lt_or_le u v with c | c
    · exact h.lo u h1 c
    · have : u = v := by omega
      subst this
      exact hx
theorem loop7 {L : Int} {S : D} (hG : Good L S) {z : Int} {n : Nat} (hn : n < 2000) : ∀ (m k : Nat) (T : D), k + m = n → Tab L S z (k + 1) T →
    ∃ T', f7_1 (.int L) S (.int n) T (.int (k + 1 : Nat)) nilD = .row [.int 1, T'] ∧ Tab L S z (n + 1) T'
  | 0, k, T, hk, hT => by
    have : k = n := by omega
    subst this
    rw [e7_1, ifT (by omega)]
    exact ⟨T, rfl, hT⟩
  | m + 1, k, T, hk, hT => by
    have h1 := hG.l1
    have h2 := hG.l2
    rw [e7_1, ifF (by omega), wrap_i64 (by omega) (by omega), ifF (by omega), ifT (by omega)]
    obtain ⟨T', e, h⟩ := row7 (n := n) hG (by omega) hT (L + 1).toNat 0 (rp (L + 1) (.row [.bool false])) (by omega) (by omega) (wd_rp rfl) (by rw [len_rp]; omega) (fun u a b => by omega) (fun u a b => by rw [cl_rp a (by omega)]; rfl)
    rw [e]
    exact loop7 hG hn m (k + 1) T' (by omega) h
theorem leads_eq {L : Int} {S : D} (hG : Good L S) {z : Int} (hz : 0 ≤ z) (hzL : z ≤ L) {n : Nat} (hn : n < 2000) : ∃ T, f7_0 (.int L) S (.int z) (.int n) = .row [.int 1, T] ∧ Tab L S z (n + 1) T := by
  have h1 := hG.l1
  have h2 := hG.l2
  rw [e7_0, wrap_i64 (by omega) (by omega), ifF (by omega), ifT (by omega), ifF (by omega), ifT (by rw [len_rp]; omega)]
  refine loop7 hG hn n 0 _ (by omega) ⟨by rw [len_ad, len_emptyD], fun k hk => ?_⟩
  have : k = 0 := by omega
  subst this
  refine ⟨?_, fun v a b => ?_⟩
  · rw [cl_ad (by omega), if_pos (by rw [len_emptyD])]
    show (len (upd _ _ _ _) : Int) = _
    rw [len_upd, len_rp]
    omega
  · rw [cl_ad (by omega), if_pos (by rw [len_emptyD])]
    show (cl (upd _ _ _ _) v 0).toBool = true ↔ _
    rw [cl_upd (n := 1) (wd_rp rfl) (by omega) hz (by rw [len_rp]; omega) a]
    have hex : Ex L S z 0 v ↔ v = z := ⟨fun ⟨q, hq, hl⟩ => (by
      cases q with
      | nil => exact hq
      | cons j q => cases hl), fun e => ⟨[], e, rfl⟩⟩
    rw [hex]
    by_cases q : v = z
    · rw [if_pos ⟨q, rfl⟩]
      exact ⟨fun _ => q, fun _ => rfl⟩
    · rw [if_neg (fun c => q c.1), cl_rp a (by omega)]
      exact ⟨fun c => absurd (show false = true from c) (by decide), fun c => absurd c q⟩
/-- the least of the paths with k steps from v to z -/
def Least (L : Int) (S : D) (z : Int) (k : Nat) (v : Int) (p : List Nat) : Prop := Pa L S p v z ∧ p.length = k ∧ ∀ q, Pa L S q v z → q.length = k → Lle p q
theorem inner8 {L : Int} {S T out : D} (hG : Good L S) {z : Int} {k n : Nat} (hk : k < n) (hn : n < 2000) (hT : Tab L S z n T) (ho : len out < 1000000) {nl : Bool} {v : Int} (h0 : 0 ≤ v) (hvL : v ≤ L) :
    ∀ (m i : Nat), i + m = len S → (∀ j, j < i → ¬ (Alw L S j v ∧ Ex L S z k (v + sAdd S j))) → Ex L S z (k + 1) v →
    ∃ j, f8_2 (.int L) S T out (.bool nl) (.int v) (.int (k + 1 : Nat)) (.int i) = f8_1 (.int L) S T (ad out (.row [.int (j : Nat)])) (.bool false) (.int (v + sAdd S j)) (.int k) ∧
      j < len S ∧ Alw L S j v ∧ Ex L S z k (v + sAdd S j) ∧ ∀ j', j' < j → ¬ (Alw L S j' v ∧ Ex L S z k (v + sAdd S j'))
  | 0, i, hi, h, he => by
    obtain ⟨j, a, b, c⟩ := Ex.step.1 he
    exact absurd ⟨b, c⟩ (h j (by omega))
  | m + 1, i, hi, h, he => by
    have hiS : i < AE.len S := by omega
    have hAi := hG.a i hiS
    have hG1 := hG.l1
    have hG2 := hG.l2
    have hG3 := hG.s
    have hTl := hT.len
    have hrow := hT.row k (by omega)
    have hrl := hrow.1
    have e8 : (cl S i 8).toInt = sAdd S i := rfl
    have hskip : ∀ {x : D}, ¬ (Alw L S i v ∧ Ex L S z k (v + sAdd S i)) → x = f8_2 (.int L) S T out (.bool nl) (.int v) (.int (k + 1 : Nat)) (.int (i + 1 : Nat)) →
        ∃ j, x = f8_1 (.int L) S T (ad out (.row [.int (j : Nat)])) (.bool false) (.int (v + sAdd S j)) (.int k) ∧
          j < len S ∧ Alw L S j v ∧ Ex L S z k (v + sAdd S j) ∧ ∀ j', j' < j → ¬ (Alw L S j' v ∧ Ex L S z k (v + sAdd S j')) := by
      intro x hq e
      rw [e]
      refine inner8 hG hk hn hT ho h0 hvL m (i + 1) (by omega) (fun j hj => ?_) he
      rcases Nat.lt_or_ge j i with c | c
      · exact h j c
      · have : j = i := by omega
        subst this
        exact hq
    rw [e8_2, ifT (by omega), ifF (by omega), e8, wrap_i64 (a := v + sAdd S i) (by omega) (by omega), wrap_i64 (a := (i : Int) + 1) (by omega) (by omega), show (i : Int) + 1 = ((i + 1 : Nat) : Int) by omega,
      wrap_i64 (a := ((k + 1 : Nat) : Int) - 1) (by omega) (by omega), show ((k + 1 : Nat) : Int) - 1 = (k : Nat) by omega]
    by_cases q1 : v < (cl S i 6).toInt
    · rw [ifT q1]
      exact hskip (fun ha => by have := ha.1.1; omega) rfl
    rw [ifF q1]
    by_cases q2 : (cl S i 7).toInt < v
    · rw [ifT q2]
      exact hskip (fun ha => by have := ha.1.2.1; omega) rfl
    rw [ifF q2, ifF (by omega), ifF (by omega)]
    by_cases q3 : v + sAdd S i < 0
    · rw [ifT q3]
      exact hskip (fun ha => by have := ha.1.2.2.1; omega) rfl
    rw [ifF q3]
    by_cases q4 : L < v + sAdd S i
    · rw [ifT q4]
      exact hskip (fun ha => by have := ha.1.2.2.2; omega) rfl
    rw [ifF q4, ifF (by omega), ifT (by omega), ifT (by omega)]
    have ha : Alw L S i v := ⟨by omega, by omega, by omega, by omega⟩
    have hx := hrow.2 (v + sAdd S i) (by omega) (by omega)
    cases q5 : (cl (cl T k 0) (v + sAdd S i) 0).toBool with
    | true =>
      rw [cT rfl, ifT (by omega)]
      exact ⟨i, rfl, hiS, ha, hx.1 q5, h⟩
    | false =>
      rw [cF rfl]
      exact hskip (fun c => by have := hx.2 c.2; rw [q5] at this; cases this) rfl
theorem loop8 {L : Int} {S T : D} (hG : Good L S) {z : Int} {n : Nat} (hn : n < 2000) (hT : Tab L S z n T) : ∀ (k : Nat) (out : D) (nl : Bool) (v : Int), k < n → len out + k < 3000 → 0 ≤ v → v ≤ L → Ex L S z k v →
    ∃ out' nl' p, f8_1 (.int L) S T out (.bool nl) (.int v) (.int k) = .row [.int 1, out', .bool nl', .int 0] ∧ out'.rows = out.rows ++ encN p ∧ Least L S z k v p
  | 0, out, nl, v, hk, ho, h0, hvL, ⟨q, hq, hl⟩ => by
    rw [e8_1, ifF (by omega)]
    have : q = [] := List.eq_nil_of_length_eq_zero hl
    subst this
    exact ⟨out, nl, [], rfl, by simp [encN], hq, rfl, fun q _ _ => trivial⟩
  | k + 1, out, nl, v, hk, ho, h0, hvL, he => by
    rw [e8_1, ifT (by omega)]
    obtain ⟨j, e, h1, h2, h3, h4⟩ := inner8 (nl := nl) (out := out) hG (show k < n by omega) hn hT (by omega) h0 hvL (len S) 0 (by omega) (fun j hj => by omega) he
    have e : f8_2 (.int L) S T out (.bool nl) (.int v) (.int (k + 1 : Nat)) (.int 0) = _ := e
    rw [e]
    obtain ⟨out', nl', p, e', g1, g2, g3, g4⟩ := loop8 hG hn hT k (ad out (.row [.int (j : Nat)])) false (v + sAdd S j) (by omega) (by rw [len_ad]; omega) h2.2.2.1 h2.2.2.2 h3
    rw [e']
    refine ⟨out', nl', j :: p, rfl, ?_, ⟨h1, h2, g2⟩, by simp [g3], fun q hq hl => ?_⟩
    · rw [g1]
      show (out.rows ++ [_]) ++ encN p = _
      simp [encN]
    · cases q with
      | nil => cases hl
      | cons j' q =>
        have hl' : q.length = k := by simpa using hl
        show j < j' ∨ j = j' ∧ Lle p q
        rcases Nat.lt_trichotomy j j' with c | c | c
        · exact .inl c
        · subst c
          exact .inr ⟨rfl, g4 q hq.2.2 hl'⟩
        · exact absurd ⟨hq.2.1, q, hq.2.2, hl'⟩ (h4 j' c)
/-- equal lists -/
theorem same_loop {a b : D} (h : a.rows = b.rows) (hl : len a < 1000000) {x y : Bool} : ∀ (k i : Nat), i + k = len a → f9_1 a (.bool x) b (.bool y) (.int i) = .row [.int 1, .bool true]
  | 0, i, hi => by rw [e9_1, ifF (by omega)]
  | k + 1, i, hi => by
    have hb : len b = len a := by show b.rows.length = a.rows.length; rw [h]
    have hc : cl a i 0 = cl b i 0 := by show (a.rows.getD _ _).cells.getD _ _ = (b.rows.getD _ _).cells.getD _ _; rw [h]
    rw [e9_1, ifT (by omega), ifF (by omega), ifT (by omega), ifT (by rw [hc]), wrap_i64 (by omega) (by omega), show (i : Int) + 1 = ((i + 1 : Nat) : Int) by omega]
    exact same_loop h hl k (i + 1) (by omega)
theorem same_eq {a b : D} (h : a.rows = b.rows) (hl : len a < 1000000) {x y : Bool} : f9_0 a (.bool x) b (.bool y) = .row [.int 1, .bool true] := by
  have hb : len b = len a := by show b.rows.length = a.rows.length; rw [h]
  rw [e9_0, ifT (by omega)]
  exact same_loop h hl (len a) 0 (by omega)
theorem same2_loop {a b : D} (h : a.rows = b.rows) (hl : len a < 1000000) {y : Bool} : ∀ (k i : Nat), i + k = len a → f10_1 a b (.bool y) (.int i) = .row [.int 1, .bool true]
  | 0, i, hi => by rw [e10_1, ifF (by omega)]
  | k + 1, i, hi => by
    have hb : len b = len a := by show b.rows.length = a.rows.length; rw [h]
    have hc : cl a i 0 = cl b i 0 := by show (a.rows.getD _ _).cells.getD _ _ = (b.rows.getD _ _).cells.getD _ _; rw [h]
    rw [e10_1, ifT (by omega), ifF (by omega), ifT (by omega), ifT (by rw [hc]), wrap_i64 (by omega) (by omega), show (i : Int) + 1 = ((i + 1 : Nat) : Int) by omega]
    exact same2_loop h hl k (i + 1) (by omega)
theorem same2_eq {a b : D} (h : a.rows = b.rows) (hl : len a < 1000000) {y : Bool} : f10_0 a b (.bool y) = .row [.int 1, .bool true] := by
  have hb : len b = len a := by show b.rows.length = a.rows.length; rw [h]
  rw [e10_0, ifT (by omega)]
  exact same2_loop h hl (len a) 0 (by omega)
/-- the numbers below n of which p says so -/
def upto (p : Int → Bool) (n : Nat) : List D := encN ((List.range n).filter fun i => p i)
omit [While] in
theorem upto_succ (p : Int → Bool) (n : Nat) : upto p (n + 1) = upto p n ++ (if p n = true then [.row [.int n]] else []) := by
  unfold upto encN
  rw [List.range_succ, List.filter_append, List.map_append]
  congr 1
  split
  · rename_i h; simp [h]
  · rename_i h; simp [h]
omit [While] in
theorem upto_len (p : Int → Bool) (n : Nat) : (upto p n).length ≤ n := by
  unfold upto
  rw [encN_len]
  refine Nat.le_trans (List.length_filter_le _ _) ?_
  simp
theorem reach_loop {F : D} (hF : len F < 3000) {e : Int} {x : Bool} : ∀ (k i : Nat) (o : D) (y : Bool), i + k = len F → o.rows = upto (fd F) i → ∃ o' y', f3_1 o (.bool y) (.int e) F (.bool x) (.int (len F)) (.int i) = .row [.int 1, o', .bool y', .int e] ∧ o'.rows = upto (fd F) (len F)
  | 0, i, o, y, hi, ho => by
    have : i = len F := by omega
    subst this
    rw [e3_1, ifF (by omega)]
    exact ⟨o, y, rfl, ho⟩
  | k + 1, i, o, y, hi, ho => by
    have hol : len o ≤ i := by show o.rows.length ≤ i; rw [ho]; exact upto_len _ _
    rw [e3_1, ifT (by omega), ifF (by omega), ifT (by omega), wrap_i64 (by omega) (by omega), show (i : Int) + 1 = ((i + 1 : Nat) : Int) by omega]
    cases q : (cl F i 0).toBool with
    | true =>
      rw [cT rfl, ifT (by omega)]
      refine reach_loop hF k (i + 1) _ false (by omega) ?_
      rw [upto_succ, if_pos q, ← ho]
      rfl
    | false =>
      rw [cF rfl]
      refine reach_loop hF k (i + 1) _ y (by omega) ?_
      rw [upto_succ, if_neg (fun c => Bool.noConfusion (q.symm.trans c)), ho, List.append_nil]
theorem ref_loop {O : D} {L : Int} (hL : 0 ≤ L) (hL2 : L < 2000) (hO : (len O : Int) = L + 1) {p : Int → Bool} (hp : ∀ w, 0 ≤ w → w ≤ L → (p w = true ↔ 0 ≤ dv O w)) :
    ∀ (k i : Nat) (o : D) (y : Bool), i + k = len O → o.rows = upto p i → ∃ o' y', f6_1 (.int L) O o (.bool y) (.int i) = .row [.int 1, o', .bool y', .int 0] ∧ o'.rows = upto p (len O)
  | 0, i, o, y, hi, ho => by
    have : i = len O := by omega
    subst this
    rw [e6_1, ifT (by omega)]
    exact ⟨o, y, rfl, ho⟩
  | k + 1, i, o, y, hi, ho => by
    have hol : len o ≤ i := by show o.rows.length ≤ i; rw [ho]; exact upto_len _ _
    rw [e6_1, ifF (by omega), ifF (by omega), ifT (by omega), wrap_i64 (by omega) (by omega), show (i : Int) + 1 = ((i + 1 : Nat) : Int) by omega]
    have hpi := hp i (by omega) (by omega)
    by_cases q : dv O i < 0
    · rw [ifT q]
      refine ref_loop hL hL2 hO hp k (i + 1) _ y (by omega) ?_
      rw [upto_succ, if_neg (fun c => by have := hpi.1 c; omega), ho, List.append_nil]
    · rw [ifF q, ifT (by omega)]
      refine ref_loop hL hL2 hO hp k (i + 1) _ false (by omega) ?_
      rw [upto_succ, if_pos (hpi.2 (by omega)), ← ho]
      rfl
end
end Go.CR
set_option maxRecDepth 100000
namespace Go.CR
open Go.AE
section
variable [While]
theorem known_eq : f0_0 = .row [.int 1] := by rw [e0_0]
/-- what Reach says, both -/
theorem reach_eq {L : Int} {S : D} (hS : len S < 1000) : ∃ a x b y e, f3_0 (.int L) S = .row [.int 1, a, .bool x, .int e] ∧ f6_0 (.int L) S = .row [.int 1, b, .bool y, .int e] ∧ a.rows = b.rows ∧ len a < 3000 := by
  rcases valid_eq (L := L) hS with ⟨hv, hG⟩ | ⟨hv, hb⟩
  · obtain ⟨P, F, e2, hF⟩ := search_good hG
    obtain ⟨O, e5, hO⟩ := dist_eq hG
    have h1 := hG.l1
    have h2 := hG.l2
    have hl := hF.lenF
    have hl5 := hO.len
    obtain ⟨a, x, e3, ha⟩ := reach_loop (F := F) (e := 0) (x := false) (by omega) (len F) 0 nilD true (by omega) rfl
    obtain ⟨b, y, e6, hb⟩ := ref_loop (O := O) (L := L) (by omega) (by omega) hl5 (p := fd F) (fun w a b => by
      rw [hF.iff w a b]
      rcases hO.val w a b with ⟨q1, q2⟩ | ⟨q1, ⟨q, q2, _⟩, _⟩
      · exact ⟨fun ⟨q, h⟩ => absurd h (q2 q), fun h => by omega⟩
      · exact ⟨fun _ => q1, fun _ => ⟨q, q2⟩⟩) (len O) 0 nilD true (by omega) rfl
    refine ⟨a, x, b, y, 0, ?_, ?_, ?_, ?_⟩
    · rw [e3_0, e2, ifT (by rfl)]
      exact e3
    · rw [e6_0, hv, e5, ifT (by rfl), cT (by rfl), ifT (by rfl)]
      exact e6
    · rw [ha, hb, show len F = len O by omega]
    · show a.rows.length < _
      rw [ha]
      have := upto_len (fd F) (len F)
      omega
  · refine ⟨nilD, true, nilD, true, 2, ?_, ?_, rfl, by rw [len_nilD]; omega⟩
    · rw [e3_0, search_bad hS hb, ifT (by rfl)]
      show f3_1 nilD (.bool true) (.int 2) nilD (.bool true) (.int (0 : Nat)) (.int 0) = _
      rw [e3_1, ifF (by omega)]
    · rw [e6_0, hv, ifT (by rfl), cF (by rfl)]
/-- what Path says, both -/
theorem ref_bad {L : Int} {S : D} (hS : len S < 1000) (hb : L < 1 ∨ 1000 < L ∨ ∃ j, j < len S ∧ (sAdd S j < -1000 ∨ 1000 < sAdd S j)) (v : Int) : f8_0 (.int L) S (.int v) = .row [.int 1, nilD, .bool true, .int 2] := by
  rcases valid_eq (L := L) hS with ⟨hv, hG⟩ | ⟨hv, _⟩
  · have h1 := hG.l1
    have h2 := hG.l2
    rcases hb with q | q | ⟨j, hj, q⟩
    · omega
    · omega
    · have := hG.a j hj
      omega
  · rw [e8_0, hv, ifT (by rfl), cF (by rfl)]
theorem ref_none {L : Int} {S F P : D} (hG : Good L S) (hF : Found L S P F) {v : Int} (h : v < 0 ∨ L < v ∨ fd F v = false) : f8_0 (.int L) S (.int v) = .row [.int 1, nilD, .bool true, .int 9] := by
  have h1 := hG.l1
  have h2 := hG.l2
  rcases valid_eq (L := L) hG.s with ⟨hv, _⟩ | ⟨_, hb⟩
  · obtain ⟨O, e5, hO⟩ := dist_eq hG
    have hl := hO.len
    rw [e8_0, hv, ifT (by rfl), cT (by rfl)]
    by_cases q1 : v < 0
    · rw [ifT q1]
    by_cases q2 : L < v
    · rw [ifF q1, ifT q2]
    rw [ifF q1, ifF q2, e5, ifT (by rfl), ifT (by show v < (len O : Int); omega), ifT]
    show dv O v < 0
    rcases hO.val v (by omega) (by omega) with ⟨q3, _⟩ | ⟨_, ⟨q, q3, _⟩, _⟩
    · omega
    · have : fd F v = true := (hF.iff v (by omega) (by omega)).2 ⟨q, q3⟩
      rcases h with c | c | c
      · omega
      · omega
      · rw [c] at this; cases this
  · rcases hb with q | q | ⟨j, hj, q⟩
    · omega
    · omega
    · have := hG.a j hj
      omega
theorem ref_path {L : Int} {S F P : D} (hG : Good L S) (hF : Found L S P F) {v : Int} (h0 : 0 ≤ v) (hv : v ≤ L) (h : fd F v = true) : ∃ o nl, f8_0 (.int L) S (.int v) = .row [.int 1, o, .bool nl, .int 0] ∧ o.rows = (cl P v 0).rows ∧ len o < 3000 := by
  have h1 := hG.l1
  have h2 := hG.l2
  rcases valid_eq (L := L) hG.s with ⟨hval, _⟩ | ⟨_, hb⟩
  · obtain ⟨O, e5, hO⟩ := dist_eq hG
    have hl := hO.len
    obtain ⟨p1, p2, p3⟩ := hF.path v h0 hv h
    rcases hO.val v h0 hv with ⟨_, q3⟩ | ⟨q3, ⟨q, q4, q5⟩, q6⟩
    · exact absurd p2 (q3 _)
    · obtain ⟨n, hn⟩ : ∃ n : Nat, q.length = n := ⟨_, rfl⟩
      have hcl : cl O v 0 = .int (n : Nat) := by rw [hO.int v h0 hv, ← q5, hn]
      have hpl : (pa P v).length = n := by
        have a := q6 _ p2
        rcases p3 q q4 with c | ⟨c, _⟩ <;> omega
      have hn2 : n < 1900 := by have := hO.le v h0 hv; omega
      obtain ⟨T, e7, hT⟩ := leads_eq hG h0 hv (show n < 2000 by omega)
      obtain ⟨o, nl, p, e8, g1, g2, g3, g4⟩ := loop8 hG (n := n + 1) (by omega) hT n nilD true 0 (by omega) (by rw [len_nilD]; omega) (by omega) (by omega) ⟨q, q4, hn⟩
      refine ⟨o, nl, ?_, ?_, ?_⟩
      · have hv5 : sl (D.row [D.int 1, O]) 1 = O := rfl
        rw [e8_0, hval, ifT (by rfl), cT (by rfl), ifF (by omega), ifF (by omega), e5, ifT (by rfl), hv5, ifT (by omega), hcl, ifF (by show ¬ (n : Int) < 0; omega), e7, ifT (by rfl)]
        exact e8
      · have : pa P v = p := by
          rcases p3 p g2 with c | ⟨c, d⟩
          · omega
          · exact Lle.antisymm c d (g4 _ p2 hpl)
        rw [p1, g1, this]
        rfl
      · show o.rows.length < _
        rw [g1, List.length_append, encN_len, g3]
        show 0 + n < 3000
        omega
  · rcases hb with q | q | ⟨j, hj, q⟩
    · omega
    · omega
    · have := hG.a j hj
      omega
end
end Go.CR
set_option maxRecDepth 100000
namespace Go.CR
open Go.AE
section
variable [While]
/-- CounterReaches in plain data -/
theorem reaches (L : Int) (S : D) (v : Int) : f11_0 (.int L) S (.int v) = .row [.int 1, .bool true] := by
  have H0 := known_eq
  by_cases hS : 12 < (len S : Int)
  · rw [e11_0, H0]
    repeat (first | rw [ifT (by first | rfl | assumption | omega)] | rw [ifF (by omega)])
    by_cases q1 : 100 < L <;> by_cases q2 : 1000 < L <;> repeat (first | rw [ifT (by first | rfl | assumption | omega)] | rw [ifF (by omega)])
  have hS' : len S < 1000 := by omega
  obtain ⟨a, x, b, y, e, H3, H6, hab, hal⟩ := reach_eq (L := L) hS'
  have H9 : f9_0 a (.bool x) b (.bool y) = .row [.int 1, .bool true] := same_eq hab (by omega)
  by_cases q0 : 100 < L ∧ ¬ 1000 < L
  · rw [e11_0, H0, ifT q0.1, ifF q0.2, ifT (by rfl)]
  rcases valid_eq (L := L) hS' with ⟨_, hG⟩ | ⟨_, hb⟩
  · have h1 := hG.l1
    have h2 := hG.l2
    obtain ⟨P, F, H2, hF⟩ := search_good hG
    have hlP := hF.lenP
    have hlF := hF.lenF
    by_cases q : v < 0 ∨ L < v ∨ fd F v = false
    · have H8 := ref_none hG hF q
      have H10 : f10_0 nilD nilD (.bool true) = .row [.int 1, .bool true] := same2_eq rfl (by rw [len_nilD]; omega)
      rw [e11_0]
      simp only [H0, H2, H3, H6, H8, sl_row0, sl_rowS, toInt_int, toBool_bool, H9, H10]
      by_cases c1 : v < 0
      · repeat (first | rw [ifT (by first | rfl | assumption | omega)] | rw [ifF (by first | assumption | omega)] | rw [cT (by rfl)])
      by_cases c2 : L < v
      · repeat (first | rw [ifT (by first | rfl | assumption | omega)] | rw [ifF (by first | assumption | omega)] | rw [cT (by rfl)])
      have c3 : (cl F v 0).toBool = false := by
        rcases q with c | c | c
        · exact absurd c c1
        · exact absurd c c2
        · exact c
      repeat (first | rw [ifT (by first | rfl | assumption | omega)] | rw [ifF (by first | assumption | omega)] | rw [cT (by rfl)] | rw [cF (by assumption)])
    · have q1 : ¬ v < 0 := fun c => q (.inl c)
      have q2 : ¬ L < v := fun c => q (.inr (.inl c))
      have q3 : fd F v = true := by
        cases c : fd F v with
        | true => rfl
        | false => exact absurd (.inr (.inr c)) q
      obtain ⟨o, nl, H8, ho, hol⟩ := ref_path hG hF (by omega) (by omega) q3
      have H10 : f10_0 (cl P v 0) o (.bool nl) = .row [.int 1, .bool true] := same2_eq ho.symm (by show (cl P v 0).rows.length < _; rw [← ho]; show len o < _; omega)
      rw [e11_0]
      simp only [H0, H2, H3, H6, H8, sl_row0, sl_rowS, toInt_int, toBool_bool, H9, H10]
      have c3 : (cl F v 0).toBool = true := q3
      repeat (first | rw [ifT (by first | rfl | assumption | omega)] | rw [ifF (by first | assumption | omega)] | rw [cT (by first | rfl | assumption)])
  · have H2 := search_bad hS' hb
    have H8 := ref_bad hS' hb v
    have H10 : f10_0 nilD nilD (.bool true) = .row [.int 1, .bool true] := same2_eq rfl (by rw [len_nilD]; omega)
    rw [e11_0]
    simp only [H0, H2, H3, H6, H8, sl_row0, sl_rowS, toInt_int, toBool_bool, H9, H10]
    by_cases c1 : 100 < L <;> by_cases c2 : 1000 < L <;> repeat (first | rw [ifT (by first | rfl | assumption | omega)] | rw [ifF (by first | assumption | omega | decide)] | rw [cT (by rfl)])
end
end Go.CR
