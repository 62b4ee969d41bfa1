/- What is proved: what the plain functions over data say, whose trees the text before writes out: the law CounterLists answers true. Conditions: those that each theorem states. -/
import Derived.Test.YthhmhljmamjgnaaCounterListsTree
set_option linter.unusedVariables false
set_option linter.unusedSectionVars false
namespace Go.AE

/-! WHAT A PRINTED PROGRAM DOES, STEP BY STEP -/
section
variable [While]
/-- the values of the unknowns at a place, with the named functions of a program -/
def atV (Ts : List (List (Tr Plf))) (xs : List D) : Val := valD (gAll Ts) xs
/-- what is left after a turn -/
def fin (Ts : List (List (Tr Plf))) (k : Nat) (V : Val) : Plf → D
  | .stuck => .row []
  | .done s cs => .row (.int (s + 1 : Nat) :: cs.map (evalD V))
  | .next j θ => gAll Ts k (.row (.int j :: θ.map (evalD V)))
def finT (Ts : List (List (Tr Plf))) (k : Nat) (V : Val) (t : Tr Plf) : D := fin Ts k V (t.get V)
theorem g_eq {Ts : List (List (Tr Plf))} (h : tabsLt 0 Ts = true) {k p : Nat} {T : List (Tr Plf)} {t : Tr Plf} {xs : List D} (hk : Ts[k]? = some T) (hp : T[p]? = some t) :
    gAll Ts k (.row (.int (p : Nat) :: xs)) = finT Ts k (atV Ts xs) t := by
  have hd : dstep T (gAll Ts) (.row (.int (p : Nat) :: xs)) = dlStep (atV Ts xs) (t.get (atV Ts xs)) := by
    show (match T[p]? with | some t => dlStep _ (t.get _) | none => none) = _
    rw [hp]
    rfl
  unfold finT fin
  split
  · rename_i e
    rw [e] at hd
    rw [gAll_eq h hk]
    rcases whileD_or (dstep T (gAll Ts)) (.row (.int (p : Nat) :: xs)) with q | ⟨n, q⟩
    · exact q
    · cases n with
      | zero => cases q
      | succ n =>
        simp only [runW, hd] at q
        cases q
  · rename_i e
    rw [e] at hd
    rw [gAll_eq h hk]
    exact whileD_done hd
  · rename_i e
    rw [e] at hd
    rw [gAll_eq h hk, whileD_next hd, ← gAll_eq h hk]
theorem finT_split {Ts : List (List (Tr Plf))} {k : Nat} {V : Val} {e : SB} {a b : Tr Plf} : finT Ts k V (.split e a b) = if evalB V e = true then finT Ts k V a else finT Ts k V b := by
  unfold finT
  rw [show (Tr.split e a b).get V = match evalB V e with | true => a.get V | false => b.get V from rfl]
  cases evalB V e <;> rfl
theorem finT_leaf {Ts : List (List (Tr Plf))} {k : Nat} {V : Val} {l : Plf} : finT Ts k V (.leaf l) = fin Ts k V l := rfl
theorem fin_stuck {Ts : List (List (Tr Plf))} {k : Nat} {V : Val} : fin Ts k V .stuck = .row [] := rfl
theorem fin_done {Ts : List (List (Tr Plf))} {k s : Nat} {V : Val} {cs : List SE} : fin Ts k V (.done s cs) = .row (.int (s + 1 : Nat) :: cs.map (evalD V)) := rfl
theorem fin_next {Ts : List (List (Tr Plf))} {k j : Nat} {V : Val} {θ : List SE} : fin Ts k V (.next j θ) = gAll Ts k (.row (.int j :: θ.map (evalD V))) := rfl
end
/-- whether x is below y, as the trees ask it -/
theorem lss_iff {V : Val} {a b : SE} : evalB V (.lss a b) = true ↔ (evalD V a).toInt < (evalD V b).toInt := by
  show decide _ = true ↔ _
  rw [decide_eq_true_eq]
theorem eql_iff {V : Val} {a b : SE} : evalB V (.eql a b) = true ↔ (evalD V a).toInt = (evalD V b).toInt := by
  show ((_ : Int) == _) = true ↔ _
  rw [beq_iff_eq]
theorem wrap_i64 {a : Int} (h : -9223372036854775808 ≤ a) (h' : a < 9223372036854775808) : IntKind.wrap .i64 a = a := by
  show (if (true && decide (a % (2 ^ 64 : Int) ≥ 2 ^ 63)) = true then a % (2 ^ 64 : Int) - 2 ^ 64 else a % (2 ^ 64 : Int)) = a
  split
  · rename_i q
    simp only [Bool.true_and, decide_eq_true_eq] at q
    omega
  · rename_i q
    simp only [Bool.true_and, decide_eq_true_eq] at q
    omega
theorem ev_add {V : Val} {a b : SE} (h : -9223372036854775808 ≤ (evalD V a).toInt + (evalD V b).toInt) (h' : (evalD V a).toInt + (evalD V b).toInt < 9223372036854775808) :
    evalD V (.arith .add .i64 a b) = .int ((evalD V a).toInt + (evalD V b).toInt) := by
  show D.int (IntKind.wrap .i64 _) = _
  rw [wrap_i64 h h']
theorem ev_sub {V : Val} {a b : SE} (h : -9223372036854775808 ≤ (evalD V a).toInt - (evalD V b).toInt) (h' : (evalD V a).toInt - (evalD V b).toInt < 9223372036854775808) :
    evalD V (.arith .sub .i64 a b) = .int ((evalD V a).toInt - (evalD V b).toInt) := by
  show D.int (IntKind.wrap .i64 _) = _
  rw [wrap_i64 h h']
end Go.AE
namespace Go.AE
/-! WORDS FOR PLAIN DATA -/
def len (d : D) : Nat := d.rows.length
def slen (d : D) : Nat := d.toStr.data.toList.length
def cl (a : D) (i : Int) (j : Nat) : D := (a.rows.getD i.toNat default).cells.getD j default
def sl (a : D) (j : Nat) : D := a.cells.getD j default
def nilD : D := .slc true []
def emptyD : D := .slc false []
def ad (a r : D) : D := .slc false (a.rows ++ [r])
def upd (a : D) (i : Int) (j : Nat) (x : D) : D := .slc a.isNil (a.rows.modify i.toNat fun r => .row (r.cells.set j x))
def rp (n : Int) (r : D) : D := .slc false (List.replicate n.toNat r)
def ct (a b : D) : D := .slc (a.isNil && b.rows.isEmpty) (a.rows ++ b.rows)
def sb (a : D) (lo hi : Int) : D := .slc a.isNil ((a.rows.drop lo.toNat).take (hi.toNat - lo.toNat))
def ni (a : D) (b : Bool) : D := .slc b a.rows
def strD (l b : Nat) : D := .str ⟨(unpackL l b).toArray⟩
def sCat (a b : D) : D := .str (a.toStr ++ b.toStr)
def sSub (a : D) (lo hi : Int) : D := .str (a.toStr.extract lo.toNat hi.toNat)
def sAt (a : D) (i : Int) : Int := ((a.toStr.data.toList[i.toNat]?).getD 0).toNat
def eqC (a : D) (l b : Nat) : Bool := strEq a.toStr.data.toList.length (packL a.toStr.data.toList) l b
def ari (op : BinOp) (k : IntKind) (x y : Int) : Int := match intBin op k x y with
  | some (.int _ n) => n
  | _ => 0
theorem ifT {α : Type} {p : Prop} [Decidable p] {a b : α} (h : p) : cond (decide p) a b = a := by rw [decide_eq_true h]; rfl
theorem ifF {α : Type} {p : Prop} [Decidable p] {a b : α} (h : ¬ p) : cond (decide p) a b = b := by rw [decide_eq_false h]; rfl
theorem cT {α : Type} {c : Bool} {a b : α} (h : c = true) : cond c a b = a := by rw [h]; rfl
theorem cF {α : Type} {c : Bool} {a b : α} (h : c = false) : cond c a b = b := by rw [h]; rfl
section
variable [While]
def walkT (Ts : List (List (Tr Plf))) (k : Nat) (V : Val) : Tr Plf → D
  | .leaf l => fin Ts k V l
  | .split e a b => cond (evalB V e) (walkT Ts k V a) (walkT Ts k V b)
theorem finT_walk {Ts : List (List (Tr Plf))} {k : Nat} {V : Val} : ∀ t : Tr Plf, finT Ts k V t = walkT Ts k V t
  | .leaf l => rfl
  | .split e a b => by
    rw [finT_split, finT_walk a, finT_walk b, walkT]
    cases evalB V e <;> rfl
theorem g_walk {Ts : List (List (Tr Plf))} (h : tabsLt 0 Ts = true) {k p : Nat} {T : List (Tr Plf)} {t : Tr Plf} {xs : List D} (hk : Ts[k]? = some T) (hp : T[p]? = some t) :
    gAll Ts k (.row (.int (p : Nat) :: xs)) = walkT Ts k (atV Ts xs) t := (g_eq h hk hp).trans (finT_walk t)
theorem cg {Ts : List (List (Tr Plf))} {k : Nat} {V : Val} {e : SB} {a b : Tr Plf} {c : Bool} {x y : D} (h : evalB V e = c) (ha : walkT Ts k V a = x) (hb : walkT Ts k V b = y) : walkT Ts k V (.split e a b) = cond c x y := by
  rw [walkT, h, ha, hb]
end
theorem lE {V : Val} {a b : SE} {x y : Int} (h : (evalD V a).toInt = x) (h' : (evalD V b).toInt = y) : evalB V (.lss a b) = decide (x < y) := by rw [← h, ← h']; rfl
theorem qE {V : Val} {a b : SE} {x y : Int} (h : (evalD V a).toInt = x) (h' : (evalD V b).toInt = y) : evalB V (.eql a b) = decide (x = y) := by rw [← h, ← h']; rfl
theorem aE {V : Val} {a b : SE} {x y : Bool} (h : evalB V a = x) (h' : evalB V b = y) : evalB V (.and a b) = (x && y) := by rw [← h, ← h']; rfl
theorem nE {V : Val} {a : SE} {x : Bool} (h : evalB V a = x) : evalB V (.neg a) = (!x) := by rw [← h]; rfl
end Go.AE
namespace Go.AE
/-! reading what was written -/
/-- every row has n cells -/
def Wd (a : D) (n : Nat) : Prop := ∀ r ∈ a.rows, ∃ cs, r = .row cs ∧ cs.length = n
theorem len_upd {a x : D} {i : Int} {j : Nat} : len (upd a i j x) = len a := by
  show (a.rows.modify _ _).length = _
  simp [len]
theorem len_ad {a r : D} : len (ad a r) = len a + 1 := by
  show (a.rows ++ [r]).length = _
  simp [len]
theorem len_rp {n : Int} {r : D} : len (rp n r) = n.toNat := by
  show (List.replicate _ _).length = _
  simp
theorem len_nilD : len nilD = 0 := rfl
theorem len_emptyD : len emptyD = 0 := rfl
theorem len_ct {a b : D} : len (ct a b) = len a + len b := by
  show (a.rows ++ b.rows).length = _
  simp [len]
theorem len_ni {a : D} {b : Bool} : len (ni a b) = len a := rfl
theorem len_sb {a : D} {lo hi : Int} (h : lo.toNat ≤ hi.toNat) (h' : hi.toNat ≤ len a) : len (sb a lo hi) = hi.toNat - lo.toNat := by
  show ((a.rows.drop _).take _).length = _
  have : hi.toNat ≤ a.rows.length := h'
  simp
  omega
theorem sl_row0 {x : D} {l : List D} : sl (.row (x :: l)) 0 = x := rfl
theorem sl_rowS {x : D} {l : List D} {n : Nat} : sl (.row (x :: l)) (n + 1) = sl (.row l) n := rfl
theorem toInt_int {n : Int} : (D.int n).toInt = n := rfl
theorem toBool_bool {b : Bool} : (D.bool b).toBool = b := rfl
theorem wd_nilD {n : Nat} : Wd nilD n := fun r hr => (by cases hr)
theorem wd_emptyD {n : Nat} : Wd emptyD n := fun r hr => (by cases hr)
theorem wd_ad {a : D} {cs : List D} {n : Nat} (h : Wd a n) (hc : cs.length = n) : Wd (ad a (.row cs)) n := by
  intro r hr
  have hr : r ∈ a.rows ++ [.row cs] := hr
  rcases List.mem_append.1 hr with q | q
  · exact h r q
  · exact ⟨cs, List.mem_singleton.1 q, hc⟩
theorem wd_rp {m : Int} {cs : List D} {n : Nat} (hc : cs.length = n) : Wd (rp m (.row cs)) n := fun r hr => ⟨cs, List.eq_of_mem_replicate hr, hc⟩
theorem wd_upd {a x : D} {i : Int} {j n : Nat} (h : Wd a n) : Wd (upd a i j x) n := by
  intro r hr
  have hr' : r ∈ a.rows.modify i.toNat fun r => .row (r.cells.set j x) := hr
  obtain ⟨k, hk, e⟩ := List.getElem_of_mem hr'
  rw [List.getElem_modify] at e
  have hk' : k < a.rows.length := by simpa using hk
  obtain ⟨cs, hc, hn⟩ := h _ (List.getElem_mem hk')
  split at e
  · rw [hc] at e
    exact ⟨_, e.symm, by simp [D.cells, hn]⟩
  · exact ⟨cs, by rw [← e]; exact hc, hn⟩
theorem wd_ni {a : D} {b : Bool} {n : Nat} (h : Wd a n) : Wd (ni a b) n := h
theorem wd_ct {a b : D} {n : Nat} (h : Wd a n) (h' : Wd b n) : Wd (ct a b) n := fun r hr => (List.mem_append.1 hr).elim (h r) (h' r)
theorem cl_upd {a x : D} {i k : Int} {j j' n : Nat} (h : Wd a n) (hj : j < n) (hi : 0 ≤ i) (hi' : i < len a) (hk : 0 ≤ k) : cl (upd a i j x) k j' = if k = i ∧ j' = j then x else cl a k j' := by
  have hi2 : i.toNat < a.rows.length := by have : len a = a.rows.length := rfl; omega
  show ((a.rows.modify i.toNat fun r => D.row (r.cells.set j x))[k.toNat]?.getD default).cells.getD j' default = _
  rw [List.getElem?_modify]
  by_cases q : k = i
  · subst q
    obtain ⟨cs, hc, hn⟩ := h _ (List.getElem_mem hi2)
    rw [List.getElem?_eq_getElem hi2]
    show ((if k.toNat = k.toNat then D.row ((a.rows[k.toNat]).cells.set j x) else a.rows[k.toNat]).cells[j']?).getD default = _
    rw [if_pos rfl, hc]
    show ((cs.set j x)[j']?).getD default = _
    rw [List.getElem?_set]
    by_cases q' : j = j'
    · subst q'
      rw [if_pos rfl, if_pos (by omega), if_pos ⟨rfl, rfl⟩]
      rfl
    · rw [if_neg q', if_neg (fun c => q' c.2.symm)]
      show _ = (a.rows[k.toNat]?.getD default).cells.getD j' default
      rw [List.getElem?_eq_getElem hi2, Option.getD_some, hc]
      rfl
  · have q2 : ¬ i.toNat = k.toNat := by omega
    rw [if_neg (fun c => q c.1)]
    simp [q2, cl]
theorem cl_upd_same {a x : D} {i : Int} {j n : Nat} (h : Wd a n) (hj : j < n) (hi : 0 ≤ i) (hi' : i < len a) : cl (upd a i j x) i j = x := by rw [cl_upd h hj hi hi' hi, if_pos ⟨rfl, rfl⟩]
theorem cl_upd_ne {a x : D} {i k : Int} {j j' n : Nat} (h : Wd a n) (hj : j < n) (hi : 0 ≤ i) (hi' : i < len a) (hk : 0 ≤ k) (hn : k ≠ i) : cl (upd a i j x) k j' = cl a k j' := by rw [cl_upd h hj hi hi' hk, if_neg (fun c => hn c.1)]
theorem cl_ad {a r : D} {k : Int} {j : Nat} (hk : 0 ≤ k) : cl (ad a r) k j = if k = len a then sl r j else cl a k j := by
  have hl : len a = a.rows.length := rfl
  show ((a.rows ++ [r])[k.toNat]?.getD default).cells.getD j default = _
  by_cases q : k.toNat < a.rows.length
  · rw [List.getElem?_append_left q, if_neg (by omega)]
    rfl
  · by_cases q' : k = len a
    · subst q'
      rw [if_pos rfl]
      have : ((len a : Int)).toNat = a.rows.length := by omega
      rw [this]
      simp [sl]
    · rw [if_neg q', List.getElem?_eq_none (by simp; omega)]
      show _ = (a.rows[k.toNat]?.getD default).cells.getD j default
      rw [List.getElem?_eq_none (by omega)]
theorem cl_rp {n k : Int} {r : D} {j : Nat} (hk : 0 ≤ k) (hk' : k < n) : cl (rp n r) k j = sl r j := by
  show ((List.replicate n.toNat r)[k.toNat]?.getD default).cells.getD j default = _
  rw [List.getElem?_replicate, if_pos (by omega)]
  rfl
theorem cl_ni {a : D} {b : Bool} {k : Int} {j : Nat} : cl (ni a b) k j = cl a k j := rfl
end Go.AE
namespace Go.AE
/-- a law's arguments -/
theorem law_can {P : Program} {ts : List TypeId} {xs : List D} {ks : List Kd} (h : LawArgs P ts xs) (hk : allKinds (Env.of P) ts = some ks) : ks.length = xs.length ∧ Can ks xs := by
  obtain ⟨ks', cs, M, e, hd, hc⟩ := h
  rw [hk] at e
  cases e
  exact ⟨hd.len.2, hc⟩
end Go.AE
namespace Go.AE
theorem sl0_ne {x c : Int} {l : List D} (h : x ≠ c) : ¬ (sl (.row (.int x :: l)) 0).toInt = c := h
end Go.AE
set_option maxRecDepth 100000
namespace Go.CL
open Go.AE
theorem lt : tabsLt 0 ts = true := by decide
section
variable [While]
/-! 0: phrasebook/phrasebooklaw30.few -/
def f0_0 (v0 : D) : D := gAll ts 0 (.row [.int (0 : Nat), v0])
def f0_1 (v0 v1 : D) : D := gAll ts 0 (.row [.int (1 : Nat), v0, v1])
/-! 1: phrasebook/phrasebooklaw30.known -/
def f1_0 : D := gAll ts 1 (.row [.int (0 : Nat)])
/-! 2: slices.IndexFunc[[]phrasebook/counter.counter,phrasebook/counter.counter] -/
def f2_0 (v0 v1 v2 : D) : D := gAll ts 2 (.row [.int (0 : Nat), v0, v1, v2])
def f2_1 (v0 v1 v2 v3 : D) : D := gAll ts 2 (.row [.int (1 : Nat), v0, v1, v2, v3])
/-! 3: phrasebook/counter.New -/
def f3_0 (v0 : D) : D := gAll ts 3 (.row [.int (0 : Nat), v0])
def f3_1 (v0 v1 v2 v3 : D) : D := gAll ts 3 (.row [.int (1 : Nat), v0, v1, v2, v3])
/-! 4: phrasebook/phrasebookref30.New -/
def f4_0 (v0 : D) : D := gAll ts 4 (.row [.int (0 : Nat), v0])
def f4_1 (v0 v1 v2 v3 v4 v5 : D) : D := gAll ts 4 (.row [.int (1 : Nat), v0, v1, v2, v3, v4, v5])
def f4_2 (v0 v1 v2 v3 v4 v5 v6 : D) : D := gAll ts 4 (.row [.int (2 : Nat), v0, v1, v2, v3, v4, v5, v6])
/-! 5: phrasebook/phrasebookref30.Put -/
def f5_0 (v0 v1 v2 v3 v4 : D) : D := gAll ts 5 (.row [.int (0 : Nat), v0, v1, v2, v3, v4])
def f5_1 (v0 v1 v2 v3 v4 v5 : D) : D := gAll ts 5 (.row [.int (1 : Nat), v0, v1, v2, v3, v4, v5])
/-! 6: (*phrasebook/counter.Bank).Put -/
def f6_0 (v0 : D) : D := gAll ts 6 (.row [.int (0 : Nat), v0])
/-! 7: (*phrasebook/counter.Bank).Put -/
def f7_0 (v0 v1 : D) : D := gAll ts 7 (.row [.int (0 : Nat), v0, v1])
/-! 8: (*phrasebook/counter.Bank).Put -/
def f8_0 (v0 v1 v2 v3 : D) : D := gAll ts 8 (.row [.int (0 : Nat), v0, v1, v2, v3])
def f8_1 (v0 v1 v2 v3 v4 : D) : D := gAll ts 8 (.row [.int (1 : Nat), v0, v1, v2, v3, v4])
def f8_2 (v0 v1 v2 v3 v4 v5 : D) : D := gAll ts 8 (.row [.int (2 : Nat), v0, v1, v2, v3, v4, v5])
/-! 9: (*phrasebook/counter.Bank).Counters -/
def f9_0 (v0 v1 v2 : D) : D := gAll ts 9 (.row [.int (0 : Nat), v0, v1, v2])
/-! 10: (*phrasebook/counter.Bank).Put -/
def f10_0 (v0 v1 v2 v3 v4 : D) : D := gAll ts 10 (.row [.int (0 : Nat), v0, v1, v2, v3, v4])
def f10_1 (v0 v1 v2 v3 v4 v5 : D) : D := gAll ts 10 (.row [.int (1 : Nat), v0, v1, v2, v3, v4, v5])
def f10_2 (v0 v1 v2 v3 v4 v5 v6 : D) : D := gAll ts 10 (.row [.int (2 : Nat), v0, v1, v2, v3, v4, v5, v6])
/-! 11: (*phrasebook/counter.Bank).Counters$1 -/
def f11_0 (v0 v1 v2 v3 v4 v5 v6 v7 v8 v9 v10 : D) : D := gAll ts 11 (.row [.int (0 : Nat), v0, v1, v2, v3, v4, v5, v6, v7, v8, v9, v10])
def f11_1 (v0 v1 v2 v3 v4 v5 v6 v7 v8 v9 v10 v11 : D) : D := gAll ts 11 (.row [.int (1 : Nat), v0, v1, v2, v3, v4, v5, v6, v7, v8, v9, v10, v11])
/-! 12: phrasebook/phrasebooklaw30.CounterLists -/
def f12_0 (v0 v1 v2 : D) : D := gAll ts 12 (.row [.int (0 : Nat), v0, v1, v2])
def f12_1 (v0 v1 v2 v3 v4 v5 v6 v7 : D) : D := gAll ts 12 (.row [.int (1 : Nat), v0, v1, v2, v3, v4, v5, v6, v7])
def f12_2 (v0 v1 v2 v3 v4 v5 v6 v7 : D) : D := gAll ts 12 (.row [.int (2 : Nat), v0, v1, v2, v3, v4, v5, v6, v7])
def f12_3 (v0 v1 v2 v3 v4 v5 v6 v7 : D) : D := gAll ts 12 (.row [.int (3 : Nat), v0, v1, v2, v3, v4, v5, v6, v7])
/-! 0: phrasebook/phrasebooklaw30.few -/
theorem e0_0 (v0 : D) : f0_0 v0 =
  f0_1 v0 (.int 0) :=
  (g_walk lt (T := t0) (t := t0p0) rfl rfl).trans rfl
theorem e0_1 (v0 : D) (v1 : Int) : f0_1 v0 (.int v1) =
  cond (decide (v1 < (len v0 : Int))) (
   cond (decide (v1 < 7)) (
    cond (decide (v1 < 0)) (
     .row []) (
     cond (decide (60 < (slen (cl v0 v1 0) : Int))) (
      .row [.int 1, (.bool false)]) (
      f0_1 v0 (.int (IntKind.wrap .i64 (v1 + 1)))))) (
    .row [.int 1, (.bool (!decide (6 < (len v0 : Int))))])) (
   .row [.int 1, (.bool (!decide (6 < (len v0 : Int))))]) :=
  (g_walk lt (T := t0) (t := t0p1) rfl rfl).trans (cg (lE rfl rfl) (cg (lE rfl rfl) (cg (lE rfl rfl) rfl (cg (lE rfl rfl) rfl rfl)) rfl) rfl)
/-! 1: phrasebook/phrasebooklaw30.known -/
theorem e1_0 : f1_0 =
  .row [.int 1] :=
  (g_walk lt (T := t1) (t := t1p0) rfl rfl).trans rfl
/-! 2: slices.IndexFunc[[]phrasebook/counter.counter,phrasebook/counter.counter] -/
theorem e2_0 (v0 : D) (v1 : Bool) (v2 : D) : f2_0 v0 (.bool v1) v2 =
  f2_1 v0 (.bool v1) (.int 0) v2 :=
  (g_walk lt (T := t2) (t := t2p0) rfl rfl).trans rfl
theorem e2_1 (v0 : D) (v1 : Bool) (v2 : Int) (v3 : D) : f2_1 v0 (.bool v1) (.int v2) v3 =
  cond (decide (v2 < (len v0 : Int))) (
   cond (decide (v2 < 0)) (
    .row []) (
    cond (D.strEq (cl v0 v2 0) v3) (
     .row [.int 1, (.int v2)]) (
     f2_1 v0 (.bool v1) (.int (IntKind.wrap .i64 (v2 + 1))) v3))) (
   .row [.int 1, (.int (-1))]) :=
  (g_walk lt (T := t2) (t := t2p1) rfl rfl).trans (cg (lE rfl rfl) (cg (lE rfl rfl) rfl (cg rfl rfl rfl)) rfl)
/-! 3: phrasebook/counter.New -/
theorem e3_0 (v0 : D) : f3_0 v0 =
  cond (decide (4 < (len v0 : Int))) (
   .row [.int 1]) (
   f3_1 v0 (.int 0) nilD (.bool true)) :=
  (g_walk lt (T := t3) (t := t3p0) rfl rfl).trans (cg (lE rfl rfl) rfl rfl)
theorem e3_1 (v0 : D) (v1 : Int) (v2 : D) (v3 : Bool) : f3_1 v0 (.int v1) v2 (.bool v3) =
  cond (decide (v1 < (len v0 : Int))) (
   cond (decide (v1 < 0)) (
    .row []) (
    cond (eqC (cl v0 v1 0) 0 0) (
     .row [.int 1]) (
     cond (decide ((cl v0 v1 1).toInt < 1)) (
      .row [.int 1]) (
      cond (decide (1000 < (cl v0 v1 1).toInt)) (
       .row [.int 1]) (
       cond (decide ((sl (f2_0 v2 (.bool v3) (cl v0 v1 0)) 0).toInt = 1)) (
        cond (decide ((sl (f2_0 v2 (.bool v3) (cl v0 v1 0)) 1).toInt < 0)) (
         cond (decide ((len v2 : Int) < 1048576)) (
          f3_1 v0 (.int (IntKind.wrap .i64 (v1 + 1))) (ad v2 (.row [(cl v0 v1 0), (cl v0 v1 1), (.int 0)])) (.bool false)) (
          .row [])) (
         .row [.int 1])) (
        .row [])))))) (
   .row [.int 2, v2, (.bool v3)]) :=
  (g_walk lt (T := t3) (t := t3p1) rfl rfl).trans (cg (lE rfl rfl) (cg (lE rfl rfl) rfl (cg rfl rfl (cg (lE rfl rfl) rfl (cg (lE rfl rfl) rfl (cg (qE rfl rfl) (cg (lE rfl rfl) (cg (lE rfl rfl) rfl rfl) rfl) rfl))))) rfl)
/-! 4: phrasebook/phrasebookref30.New -/
theorem e4_0 (v0 : D) : f4_0 v0 =
  cond (decide (4 < (len v0 : Int))) (
   .row [.int 1, nilD, (.bool true), nilD, (.bool true), (.int 2)]) (
   f4_1 v0 (.int 0) nilD (.bool true) nilD (.bool true)) :=
  (g_walk lt (T := t4) (t := t4p0) rfl rfl).trans (cg (lE rfl rfl) rfl rfl)
theorem e4_1 (v0 : D) (v1 : Int) (v2 : D) (v3 : Bool) (v4 : D) (v5 : Bool) : f4_1 v0 (.int v1) v2 (.bool v3) v4 (.bool v5) =
  cond (decide (v1 < (len v0 : Int))) (
   cond (decide (v1 < 0)) (
    .row []) (
    cond (eqC (cl v0 v1 0) 0 0) (
     .row [.int 1, nilD, (.bool true), nilD, (.bool true), (.int 2)]) (
     cond (decide ((cl v0 v1 1).toInt < 1)) (
      .row [.int 1, nilD, (.bool true), nilD, (.bool true), (.int 2)]) (
      cond (decide (1000 < (cl v0 v1 1).toInt)) (
       .row [.int 1, nilD, (.bool true), nilD, (.bool true), (.int 2)]) (
       f4_2 v0 (.int v1) (.int 0) v2 (.bool v3) v4 (.bool v5)))))) (
   .row [.int 1, v2, (.bool v3), v4, (.bool v5), (.int 0)]) :=
  (g_walk lt (T := t4) (t := t4p1) rfl rfl).trans (cg (lE rfl rfl) (cg (lE rfl rfl) rfl (cg rfl rfl (cg (lE rfl rfl) rfl (cg (lE rfl rfl) rfl rfl)))) rfl)
theorem e4_2 (v0 : D) (v1 : Int) (v2 : Int) (v3 : D) (v4 : Bool) (v5 : D) (v6 : Bool) : f4_2 v0 (.int v1) (.int v2) v3 (.bool v4) v5 (.bool v6) =
  cond (decide (v2 < v1)) (
   cond (decide (v2 < 0)) (
    .row []) (
    cond (decide (v2 < (len v0 : Int))) (
     cond (decide (v1 < 0)) (
      .row []) (
      cond (decide (v1 < (len v0 : Int))) (
       cond (D.strEq (cl v0 v2 0) (cl v0 v1 0)) (
        .row [.int 1, nilD, (.bool true), nilD, (.bool true), (.int 2)]) (
        f4_2 v0 (.int v1) (.int (IntKind.wrap .i64 (v2 + 1))) v3 (.bool v4) v5 (.bool v6))) (
       .row []))) (
     .row []))) (
   cond (decide (v1 < 0)) (
    .row []) (
    cond (decide (v1 < (len v0 : Int))) (
     cond (decide ((len v3 : Int) < 1048576)) (
      cond (decide ((len v5 : Int) < 1048576)) (
       f4_1 v0 (.int (IntKind.wrap .i64 (v1 + 1))) (ad v3 (.row [(cl v0 v1 0), (cl v0 v1 1)])) (.bool false) (ad v5 (.row [(.int 0)])) (.bool false)) (
       .row [])) (
      .row [])) (
     .row []))) :=
  (g_walk lt (T := t4) (t := t4p2) rfl rfl).trans (cg (lE rfl rfl) (cg (lE rfl rfl) rfl (cg (lE rfl rfl) (cg (lE rfl rfl) rfl (cg (lE rfl rfl) (cg rfl rfl rfl) rfl)) rfl)) (cg (lE rfl rfl) rfl (cg (lE rfl rfl) (cg (lE rfl rfl) (cg (lE rfl rfl) rfl rfl) rfl) rfl)))
/-! 5: phrasebook/phrasebookref30.Put -/
theorem e5_0 (v0 : D) (v1 : Bool) (v2 : D) (v3 : Bool) (v4 : D) : f5_0 v0 (.bool v1) v2 (.bool v3) v4 =
  cond (decide ((len v4 : Int) = (len v2 : Int))) (
   f5_1 v4 (.int 0) v0 v2 (.bool v1) (.bool v3)) (
   .row [.int 1, v0, (.bool v1), v2, (.bool v3), (.int 2)]) :=
  (g_walk lt (T := t5) (t := t5p0) rfl rfl).trans (cg (qE rfl rfl) rfl rfl)
theorem e5_1 (v0 : D) (v1 : Int) (v2 : D) (v3 : D) (v4 : Bool) (v5 : Bool) : f5_1 v0 (.int v1) v2 v3 (.bool v4) (.bool v5) =
  cond (decide (v1 < (len v0 : Int))) (
   cond (decide (v1 < 0)) (
    .row []) (
    cond (decide ((cl v0 v1 0).toInt < 0)) (
     .row [.int 1, v2, (.bool v4), v3, (.bool v5), (.int 3)]) (
     cond (decide (v1 < (len v2 : Int))) (
      cond (decide ((cl v2 v1 1).toInt < (cl v0 v1 0).toInt)) (
       .row [.int 1, v2, (.bool v4), v3, (.bool v5), (.int 3)]) (
       f5_1 v0 (.int (IntKind.wrap .i64 (v1 + 1))) v2 v3 (.bool v4) (.bool v5))) (
      .row [])))) (
   cond (decide ((len v0 : Int) < 1048576)) (
    .row [.int 2, v2, (.bool v4), (ct emptyD v0), (.bool false)]) (
    .row [])) :=
  (g_walk lt (T := t5) (t := t5p1) rfl rfl).trans (cg (lE rfl rfl) (cg (lE rfl rfl) rfl (cg (lE rfl rfl) rfl (cg (lE rfl rfl) (cg (lE rfl rfl) rfl rfl) rfl))) (cg (lE rfl rfl) rfl rfl))
/-! 6: (*phrasebook/counter.Bank).Put -/
theorem e6_0 (v0 : D) : f6_0 v0 =
  .row [.int 1] :=
  (g_walk lt (T := t6) (t := t6p0) rfl rfl).trans rfl
/-! 7: (*phrasebook/counter.Bank).Put -/
theorem e7_0 (v0 : D) (v1 : Bool) : f7_0 v0 (.bool v1) =
  .row [.int 1] :=
  (g_walk lt (T := t7) (t := t7p0) rfl rfl).trans rfl
/-! 8: (*phrasebook/counter.Bank).Put -/
theorem e8_0 (v0 : Bool) (v1 : D) (v2 : Bool) (v3 : D) : f8_0 (.bool v0) v1 (.bool v2) v3 =
  cond (v0) (
   cond (decide ((len v3 : Int) = (len v1 : Int))) (
    f8_1 v3 (.int 0) (.bool v0) v1 (.bool v2)) (
    .row [.int 1, (.int 2), v1])) (
   .row [.int 1, (.int 1), v1]) :=
  (g_walk lt (T := t8) (t := t8p0) rfl rfl).trans (cg rfl (cg (qE rfl rfl) rfl rfl) rfl)
theorem e8_1 (v0 : D) (v1 : Int) (v2 : Bool) (v3 : D) (v4 : Bool) : f8_1 v0 (.int v1) (.bool v2) v3 (.bool v4) =
  cond (decide (v1 < (len v0 : Int))) (
   cond (decide (v1 < 0)) (
    .row []) (
    cond (decide ((cl v0 v1 0).toInt < 0)) (
     .row [.int 1, (.int 3), v3]) (
     cond (decide (v1 < (len v3 : Int))) (
      cond (decide ((cl v3 v1 1).toInt < (cl v0 v1 0).toInt)) (
       .row [.int 1, (.int 3), v3]) (
       f8_1 v0 (.int (IntKind.wrap .i64 (v1 + 1))) (.bool v2) v3 (.bool v4))) (
      .row [])))) (
   f8_2 v0 (.int (len v0 : Int)) (.int 0) (.bool v2) v3 (.bool v4)) :=
  (g_walk lt (T := t8) (t := t8p1) rfl rfl).trans (cg (lE rfl rfl) (cg (lE rfl rfl) rfl (cg (lE rfl rfl) rfl (cg (lE rfl rfl) (cg (lE rfl rfl) rfl rfl) rfl))) rfl)
theorem e8_2 (v0 : D) (v1 : Int) (v2 : Int) (v3 : Bool) (v4 : D) (v5 : Bool) : f8_2 v0 (.int v1) (.int v2) (.bool v3) v4 (.bool v5) =
  cond (decide (v2 < v1)) (
   cond (decide (v2 < 0)) (
    .row []) (
    cond (decide (v2 < (len v0 : Int))) (
     cond (decide (v2 < (len v4 : Int))) (
      f8_2 v0 (.int v1) (.int (IntKind.wrap .i64 (v2 + 1))) (.bool v3) (upd v4 v2 2 (cl v0 v2 0)) (.bool v5)) (
      .row [])) (
     .row []))) (
   .row [.int 1, (.int 0), v4]) :=
  (g_walk lt (T := t8) (t := t8p2) rfl rfl).trans (cg (lE rfl rfl) (cg (lE rfl rfl) rfl (cg (lE rfl rfl) (cg (lE rfl rfl) rfl rfl) rfl)) rfl)
/-! 9: (*phrasebook/counter.Bank).Counters -/
theorem e9_0 (v0 : Bool) (v1 : D) (v2 : Bool) : f9_0 (.bool v0) v1 (.bool v2) =
  cond (v0) (
   cond (v2) (
    .row [.int 1, nilD, (.bool true)]) (
    cond (decide ((len v1 : Int) < 1048576)) (
     .row [.int 1, (ct emptyD v1), (.bool false)]) (
     .row []))) (
   .row [.int 1, nilD, (.bool true)]) :=
  (g_walk lt (T := t9) (t := t9p0) rfl rfl).trans (cg rfl (cg rfl rfl (cg (lE rfl rfl) rfl rfl)) rfl)
/-! 10: (*phrasebook/counter.Bank).Put -/
theorem e10_0 (v0 : Bool) (v1 : D) (v2 : Bool) (v3 : D) (v4 : Bool) : f10_0 (.bool v0) v1 (.bool v2) v3 (.bool v4) =
  cond (v0) (
   cond (decide ((len v3 : Int) = (len v1 : Int))) (
    f10_1 v3 (.bool v4) (.int 0) (.bool v0) v1 (.bool v2)) (
    .row [.int 1, (.int 2), v1])) (
   .row [.int 1, (.int 1), v1]) :=
  (g_walk lt (T := t10) (t := t10p0) rfl rfl).trans (cg rfl (cg (qE rfl rfl) rfl rfl) rfl)
theorem e10_1 (v0 : D) (v1 : Bool) (v2 : Int) (v3 : Bool) (v4 : D) (v5 : Bool) : f10_1 v0 (.bool v1) (.int v2) (.bool v3) v4 (.bool v5) =
  cond (decide (v2 < (len v0 : Int))) (
   cond (decide (v2 < 0)) (
    .row []) (
    cond (decide ((cl v0 v2 0).toInt < 0)) (
     .row [.int 1, (.int 3), v4]) (
     cond (decide (v2 < (len v4 : Int))) (
      cond (decide ((cl v4 v2 1).toInt < (cl v0 v2 0).toInt)) (
       .row [.int 1, (.int 3), v4]) (
       f10_1 v0 (.bool v1) (.int (IntKind.wrap .i64 (v2 + 1))) (.bool v3) v4 (.bool v5))) (
      .row [])))) (
   f10_2 v0 (.bool v1) (.int (len v0 : Int)) (.int 0) (.bool v3) v4 (.bool v5)) :=
  (g_walk lt (T := t10) (t := t10p1) rfl rfl).trans (cg (lE rfl rfl) (cg (lE rfl rfl) rfl (cg (lE rfl rfl) rfl (cg (lE rfl rfl) (cg (lE rfl rfl) rfl rfl) rfl))) rfl)
theorem e10_2 (v0 : D) (v1 : Bool) (v2 : Int) (v3 : Int) (v4 : Bool) (v5 : D) (v6 : Bool) : f10_2 v0 (.bool v1) (.int v2) (.int v3) (.bool v4) v5 (.bool v6) =
  cond (decide (v3 < v2)) (
   cond (decide (v3 < 0)) (
    .row []) (
    cond (decide (v3 < (len v0 : Int))) (
     cond (decide (v3 < (len v5 : Int))) (
      f10_2 v0 (.bool v1) (.int v2) (.int (IntKind.wrap .i64 (v3 + 1))) (.bool v4) (upd v5 v3 2 (cl v0 v3 0)) (.bool v6)) (
      .row [])) (
     .row []))) (
   .row [.int 1, (.int 0), v5]) :=
  (g_walk lt (T := t10) (t := t10p2) rfl rfl).trans (cg (lE rfl rfl) (cg (lE rfl rfl) rfl (cg (lE rfl rfl) (cg (lE rfl rfl) rfl rfl) rfl)) rfl)
/-! 11: (*phrasebook/counter.Bank).Counters$1 -/
theorem e11_0 (v0 : D) (v1 : Int) (v2 : Bool) (v3 : D) (v4 : Bool) (v5 : D) (v6 : Bool) (v7 : Int) (v8 : Int) (v9 : D) (v10 : Bool) : f11_0 v0 (.int v1) (.bool v2) v3 (.bool v4) v5 (.bool v6) (.int v7) (.int v8) v9 (.bool v10) =
  f11_1 v9 (.bool v10) (.int 0) v0 (.int v1) (.bool v2) v3 (.bool v4) v5 (.bool v6) (.int v7) (.int v8) :=
  (g_walk lt (T := t11) (t := t11p0) rfl rfl).trans rfl
theorem e11_1 (v0 : D) (v1 : Bool) (v2 : Int) (v3 : D) (v4 : Int) (v5 : Bool) (v6 : D) (v7 : Bool) (v8 : D) (v9 : Bool) (v10 : Int) (v11 : Int) : f11_1 v0 (.bool v1) (.int v2) v3 (.int v4) (.bool v5) v6 (.bool v7) v8 (.bool v9) (.int v10) (.int v11) =
  cond (decide (v2 < (len v0 : Int))) (
   cond (decide (v2 < 0)) (
    .row []) (
    cond (decide (v11 < (len v3 : Int))) (
     cond (decide (v11 < 0)) (
      .row []) (
      cond (D.strEq (cl v0 v2 0) (cl v3 v11 0)) (
       cond (decide (v11 < (len v8 : Int))) (
        cond (decide ((cl v0 v2 2).toInt = (cl v8 v11 0).toInt)) (
         cond (decide (v10 = 0)) (
          cond (decide ((IntKind.wrap .i64 (v11 + 1)) < v4)) (
           f11_1 v0 (.bool v1) (.int (IntKind.wrap .i64 (v2 + 1))) v3 (.int v4) (.bool v5) v6 (.bool v7) v8 (.bool v9) (.int v10) (.int (IntKind.wrap .i64 (v11 + 1)))) (
           .row [.int 1, (.int (IntKind.wrap .i64 (v11 + 1)))])) (
          f11_1 v0 (.bool v1) (.int (IntKind.wrap .i64 (v2 + 1))) v3 (.int v4) (.bool v5) v6 (.bool v7) v8 (.bool v9) (.int v10) (.int (IntKind.wrap .i64 (v11 + 1))))) (
         .row [.int 2, (.int v11)])) (
        .row [])) (
       .row [.int 2, (.int v11)]))) (
     .row [.int 2, (.int v11)]))) (
   .row [.int 3, (.int v11)]) :=
  (g_walk lt (T := t11) (t := t11p1) rfl rfl).trans (cg (lE rfl rfl) (cg (lE rfl rfl) rfl (cg (lE rfl rfl) (cg (lE rfl rfl) rfl (cg rfl (cg (lE rfl rfl) (cg (qE rfl rfl) (cg (qE rfl rfl) (cg (lE rfl rfl) rfl rfl) rfl) rfl) rfl) rfl)) rfl)) rfl)
/-! 12: phrasebook/phrasebooklaw30.CounterLists -/
theorem e12_0 (v0 : D) (v1 : D) (v2 : Int) : f12_0 v0 v1 (.int v2) =
  cond (decide ((sl (f0_0 v0) 0).toInt = 1)) (
   cond ((sl (f0_0 v0) 1).toBool) (
    cond (decide (10 < (len v1 : Int))) (
     cond (decide ((sl (f1_0) 0).toInt = 1)) (
      .row [.int 1, (.bool true)]) (
      .row [])) (
     cond (decide ((sl (f3_0 v0) 0).toInt = 1)) (
      cond (decide ((sl (f4_0 v0) 0).toInt = 1)) (
       cond (decide (2 = (sl (f4_0 v0) 5).toInt)) (
        cond (decide ((sl (f4_0 v0) 5).toInt = 0)) (
         cond (decide ((sl (f5_0 (sl (f4_0 v0) 1) (sl (f4_0 v0) 2) (sl (f4_0 v0) 3) (sl (f4_0 v0) 4) v1) 0).toInt = 1)) (
          cond (decide ((sl (f6_0 v1) 0).toInt = 1)) (
           cond (decide (1 = (sl (f5_0 (sl (f4_0 v0) 1) (sl (f4_0 v0) 2) (sl (f4_0 v0) 3) (sl (f4_0 v0) 4) v1) 5).toInt)) (
            cond (decide ((len v0 : Int) < 1048577)) (
             cond (decide ((sl (f7_0 (rp (len v0 : Int) (.row [(.int 0)])) (.bool false)) 0).toInt = 1)) (
              f12_1 v0 (.int v2) (sl (f5_0 (sl (f4_0 v0) 1) (sl (f4_0 v0) 2) (sl (f4_0 v0) 3) (sl (f4_0 v0) 4) v1) 1) (sl (f5_0 (sl (f4_0 v0) 1) (sl (f4_0 v0) 2) (sl (f4_0 v0) 3) (sl (f4_0 v0) 4) v1) 2) (sl (f5_0 (sl (f4_0 v0) 1) (sl (f4_0 v0) 2) (sl (f4_0 v0) 3) (sl (f4_0 v0) 4) v1) 3) (sl (f5_0 (sl (f4_0 v0) 1) (sl (f4_0 v0) 2) (sl (f4_0 v0) 3) (sl (f4_0 v0) 4) v1) 4) nilD (.bool true)) (
              .row [])) (
             .row [])) (
            .row [.int 1, (.bool false)])) (
           .row [])) (
          cond (decide ((sl (f5_0 (sl (f4_0 v0) 1) (sl (f4_0 v0) 2) (sl (f4_0 v0) 3) (sl (f4_0 v0) 4) v1) 0).toInt = 2)) (
           cond (decide ((sl (f6_0 v1) 0).toInt = 1)) (
            .row [.int 1, (.bool false)]) (
            .row [])) (
           .row []))) (
         cond (decide ((sl (f1_0) 0).toInt = 1)) (
          .row [.int 1, (.bool true)]) (
          .row []))) (
        .row [.int 1, (.bool false)])) (
       .row [])) (
      cond (decide ((sl (f3_0 v0) 0).toInt = 2)) (
       cond (decide ((sl (f4_0 v0) 0).toInt = 1)) (
        cond (decide (0 = (sl (f4_0 v0) 5).toInt)) (
         cond (decide ((sl (f4_0 v0) 5).toInt = 0)) (
          cond (decide ((sl (f5_0 (sl (f4_0 v0) 1) (sl (f4_0 v0) 2) (sl (f4_0 v0) 3) (sl (f4_0 v0) 4) v1) 0).toInt = 1)) (
           cond (decide ((sl (f8_0 (.bool true) (sl (f3_0 v0) 1) (sl (f3_0 v0) 2) v1) 0).toInt = 1)) (
            cond (decide ((sl (f8_0 (.bool true) (sl (f3_0 v0) 1) (sl (f3_0 v0) 2) v1) 1).toInt = (sl (f5_0 (sl (f4_0 v0) 1) (sl (f4_0 v0) 2) (sl (f4_0 v0) 3) (sl (f4_0 v0) 4) v1) 5).toInt)) (
             cond (decide ((len (sl (f8_0 (.bool true) (sl (f3_0 v0) 1) (sl (f3_0 v0) 2) v1) 2) : Int) = (len (sl (f3_0 v0) 1) : Int))) (
              cond (decide ((sl (f9_0 (.bool true) (sl (f8_0 (.bool true) (sl (f3_0 v0) 1) (sl (f3_0 v0) 2) v1) 2) (sl (f3_0 v0) 2)) 0).toInt = 1)) (
               cond (decide ((len v0 : Int) < 1048577)) (
                cond (decide ((sl (f10_0 (.bool true) (sl (f8_0 (.bool true) (sl (f3_0 v0) 1) (sl (f3_0 v0) 2) v1) 2) (sl (f3_0 v0) 2) (rp (len v0 : Int) (.row [(.int 0)])) (.bool false)) 0).toInt = 1)) (
                 f12_1 v0 (.int v2) (sl (f5_0 (sl (f4_0 v0) 1) (sl (f4_0 v0) 2) (sl (f4_0 v0) 3) (sl (f4_0 v0) 4) v1) 1) (sl (f5_0 (sl (f4_0 v0) 1) (sl (f4_0 v0) 2) (sl (f4_0 v0) 3) (sl (f4_0 v0) 4) v1) 2) (sl (f5_0 (sl (f4_0 v0) 1) (sl (f4_0 v0) 2) (sl (f4_0 v0) 3) (sl (f4_0 v0) 4) v1) 3) (sl (f5_0 (sl (f4_0 v0) 1) (sl (f4_0 v0) 2) (sl (f4_0 v0) 3) (sl (f4_0 v0) 4) v1) 4) (sl (f9_0 (.bool true) (sl (f8_0 (.bool true) (sl (f3_0 v0) 1) (sl (f3_0 v0) 2) v1) 2) (sl (f3_0 v0) 2)) 1) (sl (f9_0 (.bool true) (sl (f8_0 (.bool true) (sl (f3_0 v0) 1) (sl (f3_0 v0) 2) v1) 2) (sl (f3_0 v0) 2)) 2)) (
                 .row [])) (
                .row [])) (
               .row [])) (
              .row [])) (
             .row [.int 1, (.bool false)])) (
            .row [])) (
           cond (decide ((sl (f5_0 (sl (f4_0 v0) 1) (sl (f4_0 v0) 2) (sl (f4_0 v0) 3) (sl (f4_0 v0) 4) v1) 0).toInt = 2)) (
            cond (decide ((sl (f8_0 (.bool true) (sl (f3_0 v0) 1) (sl (f3_0 v0) 2) v1) 0).toInt = 1)) (
             cond (decide ((sl (f8_0 (.bool true) (sl (f3_0 v0) 1) (sl (f3_0 v0) 2) v1) 1).toInt = 0)) (
              cond (decide ((len (sl (f8_0 (.bool true) (sl (f3_0 v0) 1) (sl (f3_0 v0) 2) v1) 2) : Int) = (len (sl (f3_0 v0) 1) : Int))) (
               cond (decide ((sl (f9_0 (.bool true) (sl (f8_0 (.bool true) (sl (f3_0 v0) 1) (sl (f3_0 v0) 2) v1) 2) (sl (f3_0 v0) 2)) 0).toInt = 1)) (
                cond (decide ((len v0 : Int) < 1048577)) (
                 cond (decide ((sl (f10_0 (.bool true) (sl (f8_0 (.bool true) (sl (f3_0 v0) 1) (sl (f3_0 v0) 2) v1) 2) (sl (f3_0 v0) 2) (rp (len v0 : Int) (.row [(.int 0)])) (.bool false)) 0).toInt = 1)) (
                  f12_1 v0 (.int v2) (sl (f5_0 (sl (f4_0 v0) 1) (sl (f4_0 v0) 2) (sl (f4_0 v0) 3) (sl (f4_0 v0) 4) v1) 1) (sl (f5_0 (sl (f4_0 v0) 1) (sl (f4_0 v0) 2) (sl (f4_0 v0) 3) (sl (f4_0 v0) 4) v1) 2) (sl (f5_0 (sl (f4_0 v0) 1) (sl (f4_0 v0) 2) (sl (f4_0 v0) 3) (sl (f4_0 v0) 4) v1) 3) (sl (f5_0 (sl (f4_0 v0) 1) (sl (f4_0 v0) 2) (sl (f4_0 v0) 3) (sl (f4_0 v0) 4) v1) 4) (sl (f9_0 (.bool true) (sl (f8_0 (.bool true) (sl (f3_0 v0) 1) (sl (f3_0 v0) 2) v1) 2) (sl (f3_0 v0) 2)) 1) (sl (f9_0 (.bool true) (sl (f8_0 (.bool true) (sl (f3_0 v0) 1) (sl (f3_0 v0) 2) v1) 2) (sl (f3_0 v0) 2)) 2)) (
                  .row [])) (
                 .row [])) (
                .row [])) (
               .row [])) (
              .row [.int 1, (.bool false)])) (
             .row [])) (
            .row []))) (
          cond (decide ((sl (f1_0) 0).toInt = 1)) (
           .row [.int 1, (.bool true)]) (
           .row []))) (
         .row [.int 1, (.bool false)])) (
        .row [])) (
       .row [])))) (
    cond (decide ((sl (f1_0) 0).toInt = 1)) (
     .row [.int 1, (.bool true)]) (
     .row []))) (
   .row []) :=
  (g_walk lt (T := t12) (t := t12p0) rfl rfl).trans (cg (qE rfl rfl) (cg rfl (cg (lE rfl rfl) (cg (qE rfl rfl) rfl rfl) (cg (qE rfl rfl) (cg (qE rfl rfl) (cg (qE rfl rfl) (cg (qE rfl rfl) (cg (qE rfl rfl) (cg (qE rfl rfl) (cg (qE rfl rfl) (cg (lE rfl rfl) (cg (qE rfl rfl) rfl rfl) rfl) rfl) rfl) (cg (qE rfl rfl) (cg (qE rfl rfl) rfl rfl) rfl)) (cg (qE rfl rfl) rfl rfl)) rfl) rfl) (cg (qE rfl rfl) (cg (qE rfl rfl) (cg (qE rfl rfl) (cg (qE rfl rfl) (cg (qE rfl rfl) (cg (qE rfl rfl) (cg (qE rfl rfl) (cg (qE rfl rfl) (cg (qE rfl rfl) (cg (lE rfl rfl) (cg (qE rfl rfl) rfl rfl) rfl) rfl) rfl) rfl) rfl) (cg (qE rfl rfl) (cg (qE rfl rfl) (cg (qE rfl rfl) (cg (qE rfl rfl) (cg (qE rfl rfl) (cg (lE rfl rfl) (cg (qE rfl rfl) rfl rfl) rfl) rfl) rfl) rfl) rfl) rfl)) (cg (qE rfl rfl) rfl rfl)) rfl) rfl) rfl))) (cg (qE rfl rfl) rfl rfl)) rfl)
theorem e12_1 (v0 : D) (v1 : Int) (v2 : D) (v3 : Bool) (v4 : D) (v5 : Bool) (v6 : D) (v7 : Bool) : f12_1 v0 (.int v1) v2 (.bool v3) v4 (.bool v5) v6 (.bool v7) =
  cond (decide ((sl (f11_0 v0 (.int v1) (.bool false) v2 (.bool v3) v4 (.bool v5) (.int 0) (.int 0) v6 (.bool v7)) 0).toInt = 1)) (
   cond (decide (1 < v1)) (
    cond (decide (v1 < (len v0 : Int))) (
     cond (decide ((sl (f11_0 v0 (.int v1) (.bool false) v2 (.bool v3) v4 (.bool v5) (.int 0) (.int 0) v6 (.bool v7)) 1).toInt = v1)) (
      f12_2 v0 (.int v1) v2 (.bool v3) v4 (.bool v5) v6 (.bool v7)) (
      .row [.int 1, (.bool false)])) (
     cond (decide ((sl (f11_0 v0 (.int v1) (.bool false) v2 (.bool v3) v4 (.bool v5) (.int 0) (.int 0) v6 (.bool v7)) 1).toInt = (len v0 : Int))) (
      f12_2 v0 (.int v1) v2 (.bool v3) v4 (.bool v5) v6 (.bool v7)) (
      .row [.int 1, (.bool false)]))) (
    cond (decide (1 < (len v0 : Int))) (
     cond (decide ((sl (f11_0 v0 (.int v1) (.bool false) v2 (.bool v3) v4 (.bool v5) (.int 0) (.int 0) v6 (.bool v7)) 1).toInt = 1)) (
      f12_2 v0 (.int v1) v2 (.bool v3) v4 (.bool v5) v6 (.bool v7)) (
      .row [.int 1, (.bool false)])) (
     cond (decide ((sl (f11_0 v0 (.int v1) (.bool false) v2 (.bool v3) v4 (.bool v5) (.int 0) (.int 0) v6 (.bool v7)) 1).toInt = (len v0 : Int))) (
      f12_2 v0 (.int v1) v2 (.bool v3) v4 (.bool v5) v6 (.bool v7)) (
      .row [.int 1, (.bool false)])))) (
   cond (decide ((sl (f11_0 v0 (.int v1) (.bool false) v2 (.bool v3) v4 (.bool v5) (.int 0) (.int 0) v6 (.bool v7)) 0).toInt = 2)) (
    .row [.int 1, (.bool false)]) (
    cond (decide ((sl (f11_0 v0 (.int v1) (.bool false) v2 (.bool v3) v4 (.bool v5) (.int 0) (.int 0) v6 (.bool v7)) 0).toInt = 3)) (
     cond (decide (1 < v1)) (
      cond (decide (v1 < (len v0 : Int))) (
       cond (decide ((sl (f11_0 v0 (.int v1) (.bool false) v2 (.bool v3) v4 (.bool v5) (.int 0) (.int 0) v6 (.bool v7)) 1).toInt = v1)) (
        f12_2 v0 (.int v1) v2 (.bool v3) v4 (.bool v5) v6 (.bool v7)) (
        .row [.int 1, (.bool false)])) (
       cond (decide ((sl (f11_0 v0 (.int v1) (.bool false) v2 (.bool v3) v4 (.bool v5) (.int 0) (.int 0) v6 (.bool v7)) 1).toInt = (len v0 : Int))) (
        f12_2 v0 (.int v1) v2 (.bool v3) v4 (.bool v5) v6 (.bool v7)) (
        .row [.int 1, (.bool false)]))) (
      cond (decide (1 < (len v0 : Int))) (
       cond (decide ((sl (f11_0 v0 (.int v1) (.bool false) v2 (.bool v3) v4 (.bool v5) (.int 0) (.int 0) v6 (.bool v7)) 1).toInt = 1)) (
        f12_2 v0 (.int v1) v2 (.bool v3) v4 (.bool v5) v6 (.bool v7)) (
        .row [.int 1, (.bool false)])) (
       cond (decide ((sl (f11_0 v0 (.int v1) (.bool false) v2 (.bool v3) v4 (.bool v5) (.int 0) (.int 0) v6 (.bool v7)) 1).toInt = (len v0 : Int))) (
        f12_2 v0 (.int v1) v2 (.bool v3) v4 (.bool v5) v6 (.bool v7)) (
        .row [.int 1, (.bool false)])))) (
     .row []))) :=
  (g_walk lt (T := t12) (t := t12p1) rfl rfl).trans (cg (qE rfl rfl) (cg (lE rfl rfl) (cg (lE rfl rfl) (cg (qE rfl rfl) rfl rfl) (cg (qE rfl rfl) rfl rfl)) (cg (lE rfl rfl) (cg (qE rfl rfl) rfl rfl) (cg (qE rfl rfl) rfl rfl))) (cg (qE rfl rfl) rfl (cg (qE rfl rfl) (cg (lE rfl rfl) (cg (lE rfl rfl) (cg (qE rfl rfl) rfl rfl) (cg (qE rfl rfl) rfl rfl)) (cg (lE rfl rfl) (cg (qE rfl rfl) rfl rfl) (cg (qE rfl rfl) rfl rfl))) rfl)))
theorem e12_2 (v0 : D) (v1 : Int) (v2 : D) (v3 : Bool) (v4 : D) (v5 : Bool) (v6 : D) (v7 : Bool) : f12_2 v0 (.int v1) v2 (.bool v3) v4 (.bool v5) v6 (.bool v7) =
  cond (decide ((sl (f11_0 v0 (.int v1) (.bool false) v2 (.bool v3) v4 (.bool v5) (.int 1) (.int 0) v6 (.bool v7)) 0).toInt = 1)) (
   cond (decide ((sl (f11_0 v0 (.int v1) (.bool false) v2 (.bool v3) v4 (.bool v5) (.int 1) (.int 0) v6 (.bool v7)) 1).toInt = (len v0 : Int))) (
    f12_3 v0 (.int v1) v2 (.bool v3) v4 (.bool v5) v6 (.bool v7)) (
    .row [.int 1, (.bool false)])) (
   cond (decide ((sl (f11_0 v0 (.int v1) (.bool false) v2 (.bool v3) v4 (.bool v5) (.int 1) (.int 0) v6 (.bool v7)) 0).toInt = 2)) (
    .row [.int 1, (.bool false)]) (
    cond (decide ((sl (f11_0 v0 (.int v1) (.bool false) v2 (.bool v3) v4 (.bool v5) (.int 1) (.int 0) v6 (.bool v7)) 0).toInt = 3)) (
     cond (decide ((sl (f11_0 v0 (.int v1) (.bool false) v2 (.bool v3) v4 (.bool v5) (.int 1) (.int 0) v6 (.bool v7)) 1).toInt = (len v0 : Int))) (
      f12_3 v0 (.int v1) v2 (.bool v3) v4 (.bool v5) v6 (.bool v7)) (
      .row [.int 1, (.bool false)])) (
     .row []))) :=
  (g_walk lt (T := t12) (t := t12p2) rfl rfl).trans (cg (qE rfl rfl) (cg (qE rfl rfl) rfl rfl) (cg (qE rfl rfl) rfl (cg (qE rfl rfl) (cg (qE rfl rfl) rfl rfl) rfl)))
theorem e12_3 (v0 : D) (v1 : Int) (v2 : D) (v3 : Bool) (v4 : D) (v5 : Bool) (v6 : D) (v7 : Bool) : f12_3 v0 (.int v1) v2 (.bool v3) v4 (.bool v5) v6 (.bool v7) =
  cond (decide ((sl (f1_0) 0).toInt = 1)) (
   .row [.int 1, (.bool true)]) (
   .row []) :=
  (g_walk lt (T := t12) (t := t12p3) rfl rfl).trans (cg (qE rfl rfl) rfl rfl)
end
end Go.CL
namespace Go.CL
open Go.AE
/-! COUNTERLISTS: banks -/
theorem strEq_refl (d : D) : D.strEq d d = true := by simp [D.strEq, AE.strEq]
/-- a bank and the reference's say the same: names, limits, values -/
structure Bk (B Df Vl : D) : Prop where
  wdB : Wd B 3
  lenD : len Df = len B
  lenV : len Vl = len B
  nm : ∀ i : Int, 0 ≤ i → i < len B → cl B i 0 = cl Df i 0
  lim : ∀ i : Int, 0 ≤ i → i < len B → cl B i 1 = cl Df i 1
  val : ∀ i : Int, 0 ≤ i → i < len B → cl B i 2 = cl Vl i 0
section
variable [While]
theorem known_eq : f1_0 = .row [.int 1] := by rw [e1_0]
theorem few_loop {v : D} : ∀ (k i : Nat), i + k = 7 → ∃ b, f0_1 v (.int i) = .row [.int 1, .bool b] ∧ (b = true → len v ≤ 6)
  | 0, i, hi => by
    rw [e0_1]
    by_cases q : (i : Int) < len v
    · rw [ifT q, ifF (by omega)]
      exact ⟨_, rfl, fun h => by
        have : ¬ (6 < (len v : Int)) := fun c => by rw [decide_eq_true c] at h; cases h
        omega⟩
    · rw [ifF q]
      exact ⟨_, rfl, fun h => by
        have : ¬ (6 < (len v : Int)) := fun c => by rw [decide_eq_true c] at h; cases h
        omega⟩
  | k + 1, i, hi => by
    rw [e0_1]
    by_cases q : (i : Int) < len v
    · rw [ifT q, ifT (by omega), ifF (by omega)]
      by_cases q2 : 60 < (slen (cl v i 0) : Int)
      · rw [ifT q2]
        exact ⟨false, rfl, fun h => by cases h⟩
      · rw [ifF q2, wrap_i64 (by omega) (by omega), show (i : Int) + 1 = ((i + 1 : Nat) : Int) by omega]
        exact few_loop k (i + 1) (by omega)
    · rw [ifF q]
      exact ⟨_, rfl, fun h => by
        have : ¬ (6 < (len v : Int)) := fun c => by rw [decide_eq_true c] at h; cases h
        omega⟩
theorem few_eq (v : D) : ∃ b, f0_0 v = .row [.int 1, .bool b] ∧ (b = true → len v ≤ 6) := by
  rw [e0_0]
  exact few_loop 7 0 rfl
/-- the first one that has a name -/
theorem find_loop {B s : D} {n : Bool} (hB : len B < 1000000) : ∀ (k i : Nat), i + k = len B → (∀ j : Nat, j < i → D.strEq (cl B j 0) s = false) →
    (f2_1 B (.bool n) (.int i) s = .row [.int 1, .int (-1)] ∧ ∀ j : Nat, j < len B → D.strEq (cl B j 0) s = false) ∨
    ∃ j : Nat, f2_1 B (.bool n) (.int i) s = .row [.int 1, .int j] ∧ j < len B ∧ D.strEq (cl B j 0) s = true ∧ ∀ j' : Nat, j' < j → D.strEq (cl B j' 0) s = false
  | 0, i, hi, h => by
    rw [e2_1, ifF (by omega)]
    exact .inl ⟨rfl, fun j hj => h j (by omega)⟩
  | k + 1, i, hi, h => by
    rw [e2_1, ifT (by omega), ifF (by omega)]
    cases q : D.strEq (cl B i 0) s with
    | true =>
      rw [cT rfl]
      exact .inr ⟨i, rfl, by omega, q, h⟩
    | false =>
      rw [cF rfl, wrap_i64 (by omega) (by omega), show (i : Int) + 1 = ((i + 1 : Nat) : Int) by omega]
      refine find_loop hB k (i + 1) (by omega) fun j hj => ?_
      rcases Nat.lt_or_ge j i with c | c
      · exact h j c
      · have : j = i := by omega
        subst this
        exact q
theorem find_eq {B s : D} {n : Bool} (hB : len B < 1000000) :
    (f2_0 B (.bool n) s = .row [.int 1, .int (-1)] ∧ ∀ j : Nat, j < len B → D.strEq (cl B j 0) s = false) ∨
    ∃ j : Nat, f2_0 B (.bool n) s = .row [.int 1, .int j] ∧ j < len B ∧ D.strEq (cl B j 0) s = true ∧ ∀ j' : Nat, j' < j → D.strEq (cl B j' 0) s = false := by
  rw [e2_0]
  exact find_loop hB (len B) 0 (by omega) fun j hj => by omega
/-- the reference's loop over the names before -/
theorem dup_loop {v Df Vl : D} {x y : Bool} {i : Nat} (hi : i < len v) (hv : len v < 1000) (hD : len Df = i) (hV : len Vl = i) : ∀ (k j : Nat), j + k = i → (∀ j' : Nat, j' < j → D.strEq (cl v j' 0) (cl v i 0) = false) →
    (f4_2 v (.int i) (.int j) Df (.bool x) Vl (.bool y) = f4_1 v (.int (i + 1 : Nat)) (ad Df (.row [cl v i 0, cl v i 1])) (.bool false) (ad Vl (.row [.int 0])) (.bool false) ∧ ∀ j : Nat, j < i → D.strEq (cl v j 0) (cl v i 0) = false) ∨
    (f4_2 v (.int i) (.int j) Df (.bool x) Vl (.bool y) = .row [.int 1, nilD, .bool true, nilD, .bool true, .int 2] ∧ ∃ j : Nat, j < i ∧ D.strEq (cl v j 0) (cl v i 0) = true)
  | 0, j, hj, h => by
    rw [e4_2, ifF (by omega), ifF (by omega), ifT (by omega), ifT (by omega), ifT (by omega), wrap_i64 (by omega) (by omega), show (i : Int) + 1 = ((i + 1 : Nat) : Int) by omega]
    exact .inl ⟨rfl, fun j' hj' => h j' (by omega)⟩
  | k + 1, j, hj, h => by
    rw [e4_2, ifT (by omega), ifF (by omega), ifT (by omega), ifF (by omega), ifT (by omega)]
    cases q : D.strEq (cl v j 0) (cl v i 0) with
    | true =>
      rw [cT rfl]
      exact .inr ⟨rfl, j, by omega, q⟩
    | false =>
      rw [cF rfl, wrap_i64 (by omega) (by omega), show (j : Int) + 1 = ((j + 1 : Nat) : Int) by omega]
      refine dup_loop hi hv hD hV k (j + 1) (by omega) fun j' hj' => ?_
      rcases Nat.lt_or_ge j' j with c | c
      · exact h j' c
      · have : j' = j := by omega
        subst this
        exact q
/-- a bank that was made of definitions -/
structure Made (v B Df Vl : D) (nb : Bool) : Prop where
  bk : Bk B Df Vl
  nl : nb = true → len B = 0
  le : len B ≤ len v
  nm : ∀ i : Int, 0 ≤ i → i < len B → cl B i 0 = cl v i 0
  lim : ∀ i : Int, 0 ≤ i → i < len B → cl B i 1 = cl v i 1
  ok : ∀ i : Int, 0 ≤ i → i < len B → 1 ≤ (cl v i 1).toInt ∧ (cl v i 1).toInt ≤ 1000
  zero : ∀ i : Int, 0 ≤ i → i < len B → cl B i 2 = .int 0
  int : Wd Vl 1
omit [While] in
theorem Bk.ad {B Df Vl a b c : D} (h : Bk B Df Vl) : Bk (ad B (.row [a, b, c])) (AE.ad Df (.row [a, b])) (AE.ad Vl (.row [c])) where
  wdB := wd_ad h.wdB rfl
  lenD := by rw [len_ad, len_ad, h.lenD]
  lenV := by rw [len_ad, len_ad, h.lenV]
  nm := fun i h0 hi => by
    rw [len_ad] at hi
    rw [cl_ad h0, cl_ad h0, h.lenD]
    split
    · rfl
    · exact h.nm i h0 (by omega)
  lim := fun i h0 hi => by
    rw [len_ad] at hi
    rw [cl_ad h0, cl_ad h0, h.lenD]
    split
    · rfl
    · exact h.lim i h0 (by omega)
  val := fun i h0 hi => by
    rw [len_ad] at hi
    rw [cl_ad h0, cl_ad h0, h.lenV]
    split
    · rfl
    · exact h.val i h0 (by omega)
theorem new_loop {v : D} (hv : len v ≤ 4) : ∀ (k i : Nat) (B Df Vl : D) (nb x y : Bool), i + k = len v → len B = i → Made v B Df Vl nb →
    (f3_1 v (.int i) B (.bool nb) = .row [.int 1] ∧ f4_1 v (.int i) Df (.bool x) Vl (.bool y) = .row [.int 1, nilD, .bool true, nilD, .bool true, .int 2]) ∨
    ∃ B' Df' Vl' nb' x' y', f3_1 v (.int i) B (.bool nb) = .row [.int 2, B', .bool nb'] ∧ f4_1 v (.int i) Df (.bool x) Vl (.bool y) = .row [.int 1, Df', .bool x', Vl', .bool y', .int 0] ∧ Made v B' Df' Vl' nb' ∧ len B' = len v
  | 0, i, B, Df, Vl, nb, x, y, hi, hB, h => by
    have E3 := e3_1 v i B nb
    have E4 := e4_1 v i Df x Vl y
    rw [ifF (by omega)] at E3 E4
    exact .inr ⟨B, Df, Vl, nb, x, y, E3, E4, h, by omega⟩
  | k + 1, i, B, Df, Vl, nb, x, y, hi, hB, h => by
    have E3 := e3_1 v i B nb
    have E4 := e4_1 v i Df x Vl y
    rw [ifT (by omega), ifF (by omega)] at E3 E4
    cases q1 : eqC (cl v i 0) 0 0 with
    | true =>
      rw [cT q1] at E3 E4
      exact .inl ⟨E3, E4⟩
    | false =>
    rw [cF q1] at E3 E4
    by_cases q2 : (cl v i 1).toInt < 1
    · rw [ifT q2] at E3 E4
      exact .inl ⟨E3, E4⟩
    rw [ifF q2] at E3 E4
    by_cases q3 : 1000 < (cl v i 1).toInt
    · rw [ifT q3] at E3 E4
      exact .inl ⟨E3, E4⟩
    rw [ifF q3] at E3 E4
    have hD := h.bk.lenD
    have hV := h.bk.lenV
    have hnm : ∀ j : Nat, j < i → cl B j 0 = cl v j 0 := fun j hj => h.nm j (by omega) (by omega)
    rcases dup_loop (x := x) (y := y) (show i < len v by omega) (by omega) (hD.trans hB) (hV.trans hB) i 0 (by omega) (fun j hj => by omega) with ⟨e4, g⟩ | ⟨e4, j, hj, g⟩
    · rcases find_eq (B := B) (s := cl v i 0) (n := nb) (by omega) with ⟨e, g'⟩ | ⟨j, e, hj, g', _⟩
      · have e4 : f4_2 v (.int i) (.int 0) Df (.bool x) Vl (.bool y) = _ := e4
        rw [e, ifT (by rfl), ifT (by decide), ifT (by omega), wrap_i64 (by omega) (by omega), show (i : Int) + 1 = ((i + 1 : Nat) : Int) by omega] at E3
        rw [e4] at E4
        rw [E3, E4]
        refine new_loop hv k (i + 1) _ _ _ false false false (by omega) (by rw [len_ad, hB]) ⟨h.bk.ad, fun c => (by cases c), by rw [len_ad]; omega, fun j h0 hj => ?_, fun j h0 hj => ?_, fun j h0 hj => ?_, fun j h0 hj => ?_, wd_ad h.int rfl⟩
        all_goals rw [len_ad] at hj
        · rw [cl_ad h0]
          split
          · rename_i c; rw [c, hB]; rfl
          · exact h.nm j h0 (by omega)
        · rw [cl_ad h0]
          split
          · rename_i c; rw [c, hB]; rfl
          · exact h.lim j h0 (by omega)
        · by_cases c : j = i
          · rw [c]; omega
          · exact h.ok j h0 (by omega)
        · rw [cl_ad h0]
          split
          · rfl
          · exact h.zero j h0 (by omega)
      · rw [hnm j (by omega), g j (by omega)] at g'
        cases g'
    · rcases find_eq (B := B) (s := cl v i 0) (n := nb) (by omega) with ⟨e, g'⟩ | ⟨j', e, hj', g', _⟩
      · have := g' j (by omega)
        rw [hnm j (by omega), g] at this
        cases this
      · have e4 : f4_2 v (.int i) (.int 0) Df (.bool x) Vl (.bool y) = _ := e4
        rw [e, ifT (by rfl), ifF (by show ¬ ((j' : Int) < 0); omega)] at E3
        rw [e4] at E4
        exact .inl ⟨E3, E4⟩
omit [While] in
theorem made_nil (v : D) : Made v nilD nilD nilD true := by
  have h : ∀ {i : Int} {P : Prop}, 0 ≤ i → i < len nilD → P := fun h0 hi => by rw [len_nilD] at hi; omega
  exact ⟨⟨wd_nilD, rfl, rfl, fun i h0 hi => h h0 hi, fun i h0 hi => h h0 hi, fun i h0 hi => h h0 hi⟩, fun _ => rfl, by rw [len_nilD]; omega, fun i h0 hi => h h0 hi, fun i h0 hi => h h0 hi, fun i h0 hi => h h0 hi, fun i h0 hi => h h0 hi, wd_nilD⟩
theorem new_eq (v : D) : (f3_0 v = .row [.int 1] ∧ f4_0 v = .row [.int 1, nilD, .bool true, nilD, .bool true, .int 2]) ∨
    ∃ B Df Vl nb x y, f3_0 v = .row [.int 2, B, .bool nb] ∧ f4_0 v = .row [.int 1, Df, .bool x, Vl, .bool y, .int 0] ∧ Made v B Df Vl nb ∧ len B = len v ∧ len v ≤ 4 := by
  have E3 := e3_0 v
  have E4 := e4_0 v
  by_cases q : 4 < (len v : Int)
  · rw [ifT q] at E3 E4
    exact .inl ⟨E3, E4⟩
  · rw [ifF q] at E3 E4
    rw [E3, E4]
    rcases new_loop (v := v) (by omega) (len v) 0 nilD nilD nilD true true true (by omega) rfl (made_nil v) with c | ⟨B, Df, Vl, nb, x, y, e1, e2, e3, e4⟩
    · exact .inl c
    · exact .inr ⟨B, Df, Vl, nb, x, y, e1, e2, e3, e4, by omega⟩
end
end Go.CL
namespace Go.CL
open Go.AE
/-! COUNTERLISTS: values put in, the lists, the law -/
/-- values written over a bank's -/
def putV (B V : D) : Nat → D
  | 0 => B
  | n + 1 => upd (putV B V n) (n : Nat) 2 (cl V (n : Nat) 0)
theorem len_putV {B V : D} : ∀ n, len (putV B V n) = len B
  | 0 => rfl
  | n + 1 => by rw [putV, len_upd, len_putV n]
theorem wd_putV {B V : D} (h : Wd B 3) : ∀ n, Wd (putV B V n) 3
  | 0 => h
  | n + 1 => wd_upd (wd_putV h n)
theorem cl_putV {B V : D} (h : Wd B 3) : ∀ n : Nat, n ≤ len B → ∀ (i : Int) (j : Nat), 0 ≤ i → cl (putV B V n) i j = if i < n ∧ j = 2 then cl V i 0 else cl B i j
  | 0, _, i, j, h0 => by rw [if_neg (by omega)]; rfl
  | n + 1, hn, i, j, h0 => by
    rw [putV, cl_upd (wd_putV h n) (by omega) (by omega) (by rw [len_putV]; omega) h0, cl_putV h n (by omega) i j h0]
    by_cases q : i = n ∧ j = 2
    · rw [if_pos q, if_pos ⟨by omega, q.2⟩, q.1]
    · rw [if_neg q]
      by_cases q2 : i < n ∧ j = 2
      · rw [if_pos q2, if_pos ⟨by omega, q2.2⟩]
      · rw [if_neg q2, if_neg (fun c => by
          by_cases q3 : i = n
          · exact q ⟨q3, c.2⟩
          · exact q2 ⟨by omega, c.2⟩)]
theorem Bk.put {B Df Vl V : D} (h : Bk B Df Vl) (hV : len V = len B) : Bk (putV B V (len B)) Df (ct emptyD V) where
  wdB := wd_putV h.wdB _
  lenD := by rw [len_putV, h.lenD]
  lenV := by rw [len_putV, len_ct, hV, len_emptyD]; omega
  nm := fun i h0 hi => by
    rw [len_putV] at hi
    rw [cl_putV h.wdB _ (Nat.le_refl _) i 0 h0, if_neg (by omega)]
    exact h.nm i h0 hi
  lim := fun i h0 hi => by
    rw [len_putV] at hi
    rw [cl_putV h.wdB _ (Nat.le_refl _) i 1 h0, if_neg (by omega)]
    exact h.lim i h0 hi
  val := fun i h0 hi => by
    rw [len_putV] at hi
    rw [cl_putV h.wdB _ (Nat.le_refl _) i 2 h0, if_pos ⟨hi, rfl⟩]
    rfl
section
variable [While]
theorem put2_loop {V : D} {x y : Bool} {B : D} (hV : len V = len B) (hl : len B < 1000) : ∀ (k i : Nat), i + k = len B →
    f8_2 V (.int (len V)) (.int i) (.bool x) (putV B V i) (.bool y) = .row [.int 1, .int 0, putV B V (len B)]
  | 0, i, hi => by
    have : i = len B := by omega
    subst this
    rw [e8_2, ifF (by omega)]
  | k + 1, i, hi => by
    rw [e8_2, ifT (by omega), ifF (by omega), ifT (by omega), ifT (by rw [len_putV]; omega), wrap_i64 (by omega) (by omega), show (i : Int) + 1 = ((i + 1 : Nat) : Int) by omega]
    exact put2_loop hV hl k (i + 1) (by omega)
/-- Put, the bank's and the reference's -/
theorem put_loop {V B Df Vl : D} {x y nb b : Bool} (h : Bk B Df Vl) (hV : len V = len B) (hl : len B < 1000) : ∀ (k i : Nat), i + k = len B →
    (∃ c : Int, (c = 2 ∨ c = 3) ∧ f8_1 V (.int i) (.bool b) B (.bool nb) = .row [.int 1, .int c, B] ∧ f5_1 V (.int i) Df Vl (.bool x) (.bool y) = .row [.int 1, Df, .bool x, Vl, .bool y, .int c]) ∨
    (f8_1 V (.int i) (.bool b) B (.bool nb) = .row [.int 1, .int 0, putV B V (len B)] ∧ f5_1 V (.int i) Df Vl (.bool x) (.bool y) = .row [.int 2, Df, .bool x, ct emptyD V, .bool false])
  | 0, i, hi => by
    have E8 := e8_1 V i b B nb
    have E5 := e5_1 V i Df Vl x y
    rw [ifF (by omega)] at E8 E5
    rw [ifT (by omega)] at E5
    refine .inr ⟨E8.trans ?_, E5⟩
    exact put2_loop hV hl (len B) 0 (by omega)
  | k + 1, i, hi => by
    have E8 := e8_1 V i b B nb
    have E5 := e5_1 V i Df Vl x y
    have hD := h.lenD
    rw [ifT (by omega), ifF (by omega)] at E8 E5
    by_cases q1 : (cl V i 0).toInt < 0
    · rw [ifT q1] at E8 E5
      exact .inl ⟨3, .inr rfl, E8, E5⟩
    rw [ifF q1, ifT (by omega)] at E8 E5
    have e1 : cl B i 1 = cl Df i 1 := h.lim i (by omega) (by omega)
    rw [e1] at E8
    by_cases q2 : (cl Df i 1).toInt < (cl V i 0).toInt
    · rw [ifT q2] at E8 E5
      exact .inl ⟨3, .inr rfl, E8, E5⟩
    rw [ifF q2, wrap_i64 (by omega) (by omega), show (i : Int) + 1 = ((i + 1 : Nat) : Int) by omega] at E8 E5
    rw [E8, E5]
    exact put_loop h hV hl k (i + 1) (by omega)
theorem put_eq {V B Df Vl : D} {x y nb : Bool} (h : Bk B Df Vl) (hl : len B < 1000) :
    (∃ c : Int, (c = 2 ∨ c = 3) ∧ f8_0 (.bool true) B (.bool nb) V = .row [.int 1, .int c, B] ∧ f5_0 Df (.bool x) Vl (.bool y) V = .row [.int 1, Df, .bool x, Vl, .bool y, .int c]) ∨
    (len V = len B ∧ f8_0 (.bool true) B (.bool nb) V = .row [.int 1, .int 0, putV B V (len B)] ∧ f5_0 Df (.bool x) Vl (.bool y) V = .row [.int 2, Df, .bool x, ct emptyD V, .bool false])  := by
  have E8 := e8_0 true B nb V
  have E5 := e5_0 Df x Vl y V
  have hVl := h.lenV
  rw [cT rfl] at E8
  by_cases q : len V = len B
  · rw [ifT (by omega)] at E8 E5
    rw [E8, E5]
    rcases put_loop (x := x) (y := y) (nb := nb) (b := true) h q hl (len B) 0 (by omega) with c | c
    · exact .inl c
    · exact .inr ⟨q, c⟩
  · rw [ifF (by omega)] at E8 E5
    exact .inl ⟨2, .inl rfl, E8, E5⟩
/-- zeros put in: it returns -/
theorem zero2_loop {V : D} {x y z : Bool} {B : D} (hV : len V = len B) (hl : len B < 1000) : ∀ (k i : Nat), i + k = len B →
    ∃ B', f10_2 V (.bool z) (.int (len V)) (.int i) (.bool x) (putV B V i) (.bool y) = .row [.int 1, .int 0, B']
  | 0, i, hi => by
    rw [e10_2, ifF (by omega)]
    exact ⟨_, rfl⟩
  | k + 1, i, hi => by
    rw [e10_2, ifT (by omega), ifF (by omega), ifT (by omega), ifT (by rw [len_putV]; omega), wrap_i64 (by omega) (by omega), show (i : Int) + 1 = ((i + 1 : Nat) : Int) by omega]
    exact zero2_loop hV hl k (i + 1) (by omega)
theorem zero_loop {V B : D} {nb b z : Bool} (hV : len V = len B) (hl : len B < 1000) : ∀ (k i : Nat), i + k = len B → ∃ c B', f10_1 V (.bool z) (.int i) (.bool b) B (.bool nb) = .row [.int 1, .int c, B']
  | 0, i, hi => by
    rw [e10_1, ifF (by omega)]
    obtain ⟨B', e⟩ := zero2_loop (x := b) (y := nb) (z := z) hV hl (len B) 0 (by omega)
    exact ⟨0, B', e⟩
  | k + 1, i, hi => by
    rw [e10_1, ifT (by omega), ifF (by omega)]
    by_cases q1 : (cl V i 0).toInt < 0
    · rw [ifT q1]
      exact ⟨_, _, rfl⟩
    rw [ifF q1, ifT (by omega)]
    by_cases q2 : (cl B i 1).toInt < (cl V i 0).toInt
    · rw [ifT q2]
      exact ⟨_, _, rfl⟩
    rw [ifF q2, wrap_i64 (by omega) (by omega), show (i : Int) + 1 = ((i + 1 : Nat) : Int) by omega]
    exact zero_loop hV hl k (i + 1) (by omega)
theorem zero_eq {V B : D} {nb z : Bool} (hl : len B < 1000) : ∃ c B', f10_0 (.bool true) B (.bool nb) V (.bool z) = .row [.int 1, .int c, B'] := by
  rw [e10_0, cT rfl]
  by_cases q : len V = len B
  · rw [ifT (by omega)]
    exact zero_loop q hl (len B) 0 (by omega)
  · rw [ifF (by omega)]
    exact ⟨_, _, rfl⟩
/-- the list of a bank -/
theorem list_eq {B : D} {nb : Bool} (hn : nb = true → len B = 0) (hl : len B < 1000) : ∃ C nc, f9_0 (.bool true) B (.bool nb) = .row [.int 1, C, .bool nc] ∧ len C = len B ∧ ∀ (i : Int) (j : Nat), 0 ≤ i → i < len B → cl C i j = cl B i j := by
  rw [e9_0, cT rfl]
  cases nb with
  | true =>
    rw [cT rfl]
    exact ⟨nilD, true, rfl, by rw [hn rfl]; rfl, fun i j h0 hi => by rw [hn rfl] at hi; omega⟩
  | false =>
    rw [cF rfl, ifT (by omega)]
    exact ⟨_, false, rfl, by rw [len_ct, len_emptyD]; omega, fun i j h0 hi => rfl⟩
/-- a list read on, in the first turn -/
theorem turn0 {v C Df Vl : D} {many : Int} {x y z w : Bool} (hC : len C = len v) (hV : len Vl = len v) (hl : len v < 1000) (hn : ∀ i : Int, 0 ≤ i → i < len v → cl C i 0 = cl v i 0) (hv : ∀ i : Int, 0 ≤ i → i < len v → cl C i 2 = cl Vl i 0) :
    ∀ (k i : Nat), i + k = len v → (i : Int) < many ∨ i = 0 →
    (f11_1 C (.bool z) (.int i) v (.int many) (.bool w) Df (.bool x) Vl (.bool y) (.int 0) (.int i) = .row [.int 3, .int (len v)] ∧ ((len v : Int) < many ∨ len v = 0)) ∨
    ∃ m : Nat, f11_1 C (.bool z) (.int i) v (.int many) (.bool w) Df (.bool x) Vl (.bool y) (.int 0) (.int i) = .row [.int 1, .int m] ∧ 1 ≤ m ∧ m ≤ len v ∧ ((m : Int) = many ∨ m = 1 ∧ many ≤ 1)
  | 0, i, hi, hm => by
    rw [e11_1, ifF (by omega)]
    have : i = len v := by omega
    subst this
    exact .inl ⟨rfl, by omega⟩
  | k + 1, i, hi, hm => by
    rw [e11_1, ifT (by omega), ifF (by omega), ifT (by omega), ifF (by omega), cT (by rw [hn i (by omega) (by omega)]; exact strEq_refl _), ifT (by omega), ifT (by rw [hv i (by omega) (by omega)]), ifT (by rfl), wrap_i64 (by omega) (by omega), show (i : Int) + 1 = ((i + 1 : Nat) : Int) by omega]
    by_cases q : ((i + 1 : Nat) : Int) < many
    · rw [ifT q]
      exact turn0 hC hV hl hn hv k (i + 1) (by omega) (.inl q)
    · rw [ifF q]
      exact .inr ⟨i + 1, rfl, by omega, by omega, by omega⟩
theorem turn1 {v C Df Vl : D} {many : Int} {x y z w : Bool} (hC : len C = len v) (hV : len Vl = len v) (hl : len v < 1000) (hn : ∀ i : Int, 0 ≤ i → i < len v → cl C i 0 = cl v i 0) (hv : ∀ i : Int, 0 ≤ i → i < len v → cl C i 2 = cl Vl i 0) :
    ∀ (k i : Nat), i + k = len v → f11_1 C (.bool z) (.int i) v (.int many) (.bool w) Df (.bool x) Vl (.bool y) (.int 1) (.int i) = .row [.int 3, .int (len v)]
  | 0, i, hi => by
    rw [e11_1, ifF (by omega)]
    have : i = len v := by omega
    subst this
    rfl
  | k + 1, i, hi => by
    rw [e11_1, ifT (by omega), ifF (by omega), ifT (by omega), ifF (by omega), cT (by rw [hn i (by omega) (by omega)]; exact strEq_refl _), ifT (by omega), ifT (by rw [hv i (by omega) (by omega)]), ifF (by decide), wrap_i64 (by omega) (by omega), show (i : Int) + 1 = ((i + 1 : Nat) : Int) by omega]
    exact turn1 hC hV hl hn hv k (i + 1) (by omega)
theorem both {v C Df Vl : D} {many : Int} {x y z : Bool} (hC : len C = len v) (hV : len Vl = len v) (hl : len v < 1000) (hn : ∀ i : Int, 0 ≤ i → i < len v → cl C i 0 = cl v i 0) (hv : ∀ i : Int, 0 ≤ i → i < len v → cl C i 2 = cl Vl i 0) :
    f12_1 v (.int many) Df (.bool x) Vl (.bool y) C (.bool z) = .row [.int 1, .bool true] := by
  have h2 : f12_2 v (.int many) Df (.bool x) Vl (.bool y) C (.bool z) = .row [.int 1, .bool true] := by
    have : f11_0 v (.int many) (.bool false) Df (.bool x) Vl (.bool y) (.int 1) (.int 0) C (.bool z) = .row [.int 3, .int (len v)] := by
      rw [e11_0]
      exact turn1 hC hV hl hn hv (len v) 0 (by omega)
    rw [e12_2, this, ifF (sl0_ne (by decide)), ifF (sl0_ne (by decide)), ifT (by rfl), ifT (by rfl), e12_3, known_eq, ifT (by rfl)]
  rcases turn0 (Df := Df) (x := x) (y := y) (z := z) (w := false) (many := many) hC hV hl hn hv (len v) 0 (by omega) (.inr rfl) with ⟨e, hm⟩ | ⟨m, e, h1, h3, hm⟩
  · have : f11_0 v (.int many) (.bool false) Df (.bool x) Vl (.bool y) (.int 0) (.int 0) C (.bool z) = .row [.int 3, .int (len v)] := by rw [e11_0]; exact e
    rw [e12_1, this, ifF (sl0_ne (by decide)), ifF (sl0_ne (by decide)), ifT (by rfl)]
    by_cases q1 : 1 < many
    · rw [ifT q1, ifF (by omega), ifT (by rfl), h2]
    · rw [ifF q1, ifF (by omega), ifT (by rfl), h2]
  · have : f11_0 v (.int many) (.bool false) Df (.bool x) Vl (.bool y) (.int 0) (.int 0) C (.bool z) = .row [.int 1, .int m] := by rw [e11_0]; exact e
    have hs : (sl (D.row [D.int 1, D.int (m : Nat)]) 1).toInt = m := rfl
    rw [e12_1, this, ifT (by rfl), hs]
    by_cases q1 : 1 < many
    · rw [ifT q1]
      by_cases q2 : many < len v
      · rw [ifT q2, ifT (by omega), h2]
      · rw [ifF q2, ifT (by omega), h2]
    · rw [ifF q1]
      by_cases q2 : 1 < (len v : Int)
      · rw [ifT q2, ifT (by omega), h2]
      · rw [ifF q2, ifT (by omega), h2]
/-- CounterLists in plain data -/
theorem lists (v V : D) (many : Int) : f12_0 v V (.int many) = .row [.int 1, .bool true] := by
  have H1 := known_eq
  obtain ⟨b, H0, hb⟩ := few_eq v
  rw [e12_0]
  simp only [H0, H1, sl_row0, sl_rowS, toInt_int, toBool_bool, decide_true, cond_true]
  cases b with
  | false => rw [cond_false]
  | true =>
  rw [cond_true]
  have hv := hb rfl
  by_cases q : 10 < (len V : Int)
  · rw [ifT q]
  rw [ifF q]
  rcases new_eq v with ⟨H3, H4⟩ | ⟨B, Df, Vl, nb, x, y, H3, H4, hM, hBl, hv4⟩
  · simp only [H3, H4, sl_row0, sl_rowS, toInt_int, toBool_bool, decide_true, cond_true, Int.reduceEq, decide_false, cond_false]
  · have hb1 : len B < 1000 := by omega
    have h0 : (len v : Int) < 1048577 := by omega
    simp only [H3, H4, sl_row0, sl_rowS, toInt_int, toBool_bool, decide_true, cond_true, Int.reduceEq, decide_false, cond_false, h0]
    rcases put_eq (V := V) (x := x) (y := y) (nb := nb) hM.bk hb1 with ⟨c, hc, H8, H5⟩ | ⟨hVl, H8, H5⟩
    · obtain ⟨C, nc, H9, hC1, hC2⟩ := list_eq (B := B) (nb := nb) hM.nl hb1
      obtain ⟨c', B', H10⟩ := zero_eq (V := rp (len v : Int) (.row [.int 0])) (B := B) (nb := nb) (z := false) hb1
      have hL := hM.bk.lenV
      simp only [H8, H5, H9, H10, sl_row0, sl_rowS, toInt_int, toBool_bool, decide_true, cond_true, Int.reduceEq, decide_false, cond_false]
      exact both (hC1.trans hBl) (hL.trans hBl) (by omega) (fun i h0 hi => (hC2 i 0 h0 (by omega)).trans (hM.nm i h0 (by omega))) (fun i h0 hi => (hC2 i 2 h0 (by omega)).trans (hM.bk.val i h0 (by omega)))
    · have hB2 : len (putV B V (len B)) = len B := len_putV _
      have hP := hM.bk.put hVl
      obtain ⟨C, nc, H9, hC1, hC2⟩ := list_eq (B := putV B V (len B)) (nb := nb) (fun c => by rw [hB2]; exact hM.nl c) (by omega)
      obtain ⟨c', B', H10⟩ := zero_eq (V := rp (len v : Int) (.row [.int 0])) (B := putV B V (len B)) (nb := nb) (z := false) (by omega)
      have hL := hP.lenV
      simp only [H8, H5, H9, H10, hB2, sl_row0, sl_rowS, toInt_int, toBool_bool, decide_true, cond_true, Int.reduceEq, decide_false, cond_false]
      refine both (hC1.trans (hB2.trans hBl)) (hL.trans (hB2.trans hBl)) (by omega) (fun i h0 hi => (hC2 i 0 h0 (by omega)).trans ?_) (fun i h0 hi => (hC2 i 2 h0 (by omega)).trans (hP.val i h0 (by omega)))
      rw [hP.nm i h0 (by omega), ← hM.bk.nm i h0 (by omega)]
      exact hM.nm i h0 (by omega)
end
end Go.CL
