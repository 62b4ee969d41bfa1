/- What is proved: what the plain functions over data say, whose trees the text before writes out: the law CounterHolds answers true. Conditions: those that each theorem states. -/
import Derived.Test.YthhmhljmamjgnaaCounterHoldsTree
set_option linter.unusedVariables false
set_option linter.unusedSectionVars false
namespace Go.AE

/-! WHAT A PRINTED PROGRAM DOES, STEP BY STEP -/
section
variable [While]
/-- the values of the unknowns at a place, with the named functions of a program -/
def atV (Ts : List (List (Tr Plf))) (xs : List D) : Val := valD (gAll Ts) xs
/-- what is left after a turn -/
def fin (Ts : List (List (Tr Plf))) (k : Nat) (V : Val) : Plf → D
  | .stuck => .row []
  | .done s cs => .row (.int (s + 1 : Nat) :: cs.map (evalD V))
  | .next j θ => gAll Ts k (.row (.int j :: θ.map (evalD V)))
def finT (Ts : List (List (Tr Plf))) (k : Nat) (V : Val) (t : Tr Plf) : D := fin Ts k V (t.get V)
theorem g_eq {Ts : List (List (Tr Plf))} (h : tabsLt 0 Ts = true) {k p : Nat} {T : List (Tr Plf)} {t : Tr Plf} {xs : List D} (hk : Ts[k]? = some T) (hp : T[p]? = some t) :
    gAll Ts k (.row (.int (p : Nat) :: xs)) = finT Ts k (atV Ts xs) t := by
  have hd : dstep T (gAll Ts) (.row (.int (p : Nat) :: xs)) = dlStep (atV Ts xs) (t.get (atV Ts xs)) := by
    show (match T[p]? with | some t => dlStep _ (t.get _) | none => none) = _
    rw [hp]
    rfl
  unfold finT fin
  split
  · rename_i e
    rw [e] at hd
    rw [gAll_eq h hk]
    rcases whileD_or (dstep T (gAll Ts)) (.row (.int (p : Nat) :: xs)) with q | ⟨n, q⟩
    · exact q
    · cases n with
      | zero => cases q
      | succ n =>
        simp only [runW, hd] at q
        cases q
  · rename_i e
    rw [e] at hd
    rw [gAll_eq h hk]
    exact whileD_done hd
  · rename_i e
    rw [e] at hd
    rw [gAll_eq h hk, whileD_next hd, ← gAll_eq h hk]
theorem finT_split {Ts : List (List (Tr Plf))} {k : Nat} {V : Val} {e : SB} {a b : Tr Plf} : finT Ts k V (.split e a b) = if evalB V e = true then finT Ts k V a else finT Ts k V b := by
  unfold finT
  rw [show (Tr.split e a b).get V = match evalB V e with | true => a.get V | false => b.get V from rfl]
  cases evalB V e <;> rfl
theorem finT_leaf {Ts : List (List (Tr Plf))} {k : Nat} {V : Val} {l : Plf} : finT Ts k V (.leaf l) = fin Ts k V l := rfl
theorem fin_stuck {Ts : List (List (Tr Plf))} {k : Nat} {V : Val} : fin Ts k V .stuck = .row [] := rfl
theorem fin_done {Ts : List (List (Tr Plf))} {k s : Nat} {V : Val} {cs : List SE} : fin Ts k V (.done s cs) = .row (.int (s + 1 : Nat) :: cs.map (evalD V)) := rfl
theorem fin_next {Ts : List (List (Tr Plf))} {k j : Nat} {V : Val} {θ : List SE} : fin Ts k V (.next j θ) = gAll Ts k (.row (.int j :: θ.map (evalD V))) := rfl
end
/-- whether x is below y, as the trees ask it -/
theorem lss_iff {V : Val} {a b : SE} : evalB V (.lss a b) = true ↔ (evalD V a).toInt < (evalD V b).toInt := by
  show decide _ = true ↔ _
  rw [decide_eq_true_eq]
theorem eql_iff {V : Val} {a b : SE} : evalB V (.eql a b) = true ↔ (evalD V a).toInt = (evalD V b).toInt := by
  show ((_ : Int) == _) = true ↔ _
  rw [beq_iff_eq]
theorem wrap_i64 {a : Int} (h : -9223372036854775808 ≤ a) (h' : a < 9223372036854775808) : IntKind.wrap .i64 a = a := by
  show (if (true && decide (a % (2 ^ 64 : Int) ≥ 2 ^ 63)) = true then a % (2 ^ 64 : Int) - 2 ^ 64 else a % (2 ^ 64 : Int)) = a
  split
  · rename_i q
    simp only [Bool.true_and, decide_eq_true_eq] at q
    omega
  · rename_i q
    simp only [Bool.true_and, decide_eq_true_eq] at q
    omega
theorem ev_add {V : Val} {a b : SE} (h : -9223372036854775808 ≤ (evalD V a).toInt + (evalD V b).toInt) (h' : (evalD V a).toInt + (evalD V b).toInt < 9223372036854775808) :
    evalD V (.arith .add .i64 a b) = .int ((evalD V a).toInt + (evalD V b).toInt) := by
  show D.int (IntKind.wrap .i64 _) = _
  rw [wrap_i64 h h']
theorem ev_sub {V : Val} {a b : SE} (h : -9223372036854775808 ≤ (evalD V a).toInt - (evalD V b).toInt) (h' : (evalD V a).toInt - (evalD V b).toInt < 9223372036854775808) :
    evalD V (.arith .sub .i64 a b) = .int ((evalD V a).toInt - (evalD V b).toInt) := by
  show D.int (IntKind.wrap .i64 _) = _
  rw [wrap_i64 h h']
end Go.AE
namespace Go.CH
open Go.AE
/-! COUNTERHOLDS: THE SMALL FUNCTIONS -/
theorem lt : tabsLt 0 ts = true := by decide
section
variable [While]
theorem known_eq : gAll ts 0 (.row [.int (0 : Nat)]) = .row [.int 1] := by
  rw [g_eq lt (T := t0) (t := t0p0) rfl rfl]
  rfl
/-- the cell j of row i, as a number -/
def ci (S : D) (i j : Nat) : Int := ((S.rows.getD i default).cells.getD j default).toInt
theorem e1_1 (S n : D) (i : Int) : gAll ts 1 (.row [.int (1 : Nat), S, n, .int i]) = if i < S.rows.length then (if i < 0 then .row [] else
    if ci S i.toNat 8 < -1000 then .row [.int 1, .int i] else if 1000 < ci S i.toNat 8 then .row [.int 1, .int i] else gAll ts 1 (.row [.int (1 : Nat), S, n, .int (IntKind.wrap .i64 (i + 1))])) else .row [.int 1, .int (-1)] := by
  rw [g_eq lt (T := t1) (t := t1p1) rfl rfl]
  simp only [t1p1, finT_split, finT_leaf, fin_stuck, fin_done, fin_next, lss_iff]
  rfl
/-- slices.IndexFunc over steps: whether a step is out of range -/
theorem idx_loop (S n : D) (hS : S.rows.length < 1000) : ∀ (k i : Nat), i + k = S.rows.length → (∀ j, j < i → -1000 ≤ ci S j 8 ∧ ci S j 8 ≤ 1000) →
    ∃ r : Int, gAll ts 1 (.row [.int (1 : Nat), S, n, .int i]) = .row [.int 1, .int r] ∧ (r < 0 → ∀ j, j < S.rows.length → -1000 ≤ ci S j 8 ∧ ci S j 8 ≤ 1000)
  | 0, i, hi, h => by
    rw [e1_1, if_neg (show ¬ ((i : Int) < S.rows.length) by omega)]
    exact ⟨-1, rfl, fun _ j hj => h j (by omega)⟩
  | k + 1, i, hi, h => by
    rw [e1_1, if_pos (show ((i : Int) < S.rows.length) by omega), if_neg (show ¬ ((i : Int) < 0) by omega)]
    show ∃ r, (if ci S i 8 < -1000 then _ else if 1000 < ci S i 8 then _ else gAll ts 1 (.row [.int (1 : Nat), S, n, .int (IntKind.wrap .i64 ((i : Int) + 1))])) = _ ∧ _
    split
    · exact ⟨i, rfl, fun q => by omega⟩
    · split
      · exact ⟨i, rfl, fun q => by omega⟩
      · rw [wrap_i64 (by omega) (by omega), show (i : Int) + 1 = ((i + 1 : Nat) : Int) by omega]
        refine idx_loop S n hS k (i + 1) (by omega) fun j hj => ?_
        rcases Nat.lt_or_ge j i with q | q
        · exact h j q
        · have : j = i := by omega
          subst this
          omega
theorem idx_eq (S n : D) (hS : S.rows.length < 1000) : ∃ r : Int, gAll ts 1 (.row [.int (0 : Nat), S, n]) = .row [.int 1, .int r] ∧ (r < 0 → ∀ j, j < S.rows.length → -1000 ≤ ci S j 8 ∧ ci S j 8 ≤ 1000) := by
  have e : gAll ts 1 (.row [.int (0 : Nat), S, n]) = gAll ts 1 (.row [.int (1 : Nat), S, n, .int (0 : Nat)]) := by
    rw [g_eq lt (T := t1) (t := t1p0) rfl rfl]
    rfl
  rw [e]
  exact idx_loop S n hS S.rows.length 0 (by omega) fun j hj => by omega
/-- slices.IndexFunc over counters, where the first one has the name -/
def nm (B : D) (i : Nat) : D := (B.rows.getD i default).cells.getD 0 default
theorem e4_1 (B n s : D) (i : Int) : gAll ts 4 (.row [.int (1 : Nat), B, n, .int i, s]) = if i < B.rows.length then (if i < 0 then .row [] else
    if D.strEq (nm B i.toNat) s = true then .row [.int 1, .int i] else gAll ts 4 (.row [.int (1 : Nat), B, n, .int (IntKind.wrap .i64 (i + 1)), s])) else .row [.int 1, .int (-1)] := by
  rw [g_eq lt (T := t4) (t := t4p1) rfl rfl]
  simp only [t4p1, finT_split, finT_leaf, fin_stuck, fin_done, fin_next, lss_iff]
  rfl
theorem e4_0 (B n s : D) : gAll ts 4 (.row [.int (0 : Nat), B, n, s]) = gAll ts 4 (.row [.int (1 : Nat), B, n, .int 0, s]) := by
  rw [g_eq lt (T := t4) (t := t4p0) rfl rfl]
  rfl
theorem find_none (n s : D) : gAll ts 4 (.row [.int (0 : Nat), .slc true [], n, s]) = .row [.int 1, .int (-1)] := by
  rw [e4_0, e4_1]
  rfl
theorem find_one (B n s : D) (hB : 0 < B.rows.length) (hs : D.strEq (nm B 0) s = true) : gAll ts 4 (.row [.int (0 : Nat), B, n, s]) = .row [.int 1, .int 0] := by
  rw [e4_0, e4_1, if_pos (show (0 : Int) < B.rows.length by omega), if_neg (show ¬ ((0 : Int) < 0) by omega)]
  exact if_pos hs
end
end Go.CH
namespace Go.CH
open Go.AE
/-! COUNTERHOLDS: counter.search -/
section
variable [While]
/-- the cell 0 of row w -/
def cd (P : D) (w : Nat) : D := (P.rows.getD w default).cells.getD 0 default
/-- a row's cell 0 written -/
def up (P : D) (w : Nat) (x : D) : D := .slc P.isNil (P.rows.modify w fun r => .row (r.cells.set 0 x))
def ad (N r : D) : D := .slc false (N.rows ++ [r])
theorem e2_3 (S n P F N nn lv ln le li : D) (L v i : Int) : gAll ts 2 (.row [.int (3 : Nat), .int L, S, n, P, F, N, nn, .int v, lv, ln, le, li, .int i]) =
    if i < S.rows.length then (if i < 0 then .row [] else
      if v < ci S i.toNat 6 then gAll ts 2 (.row [.int (3 : Nat), .int L, S, n, P, F, N, nn, .int v, lv, ln, le, li, .int (IntKind.wrap .i64 (i + 1))]) else
      if ci S i.toNat 7 < v then gAll ts 2 (.row [.int (3 : Nat), .int L, S, n, P, F, N, nn, .int v, lv, ln, le, li, .int (IntKind.wrap .i64 (i + 1))]) else
      if ci S i.toNat 8 < IntKind.wrap .i64 (0 - v) then gAll ts 2 (.row [.int (3 : Nat), .int L, S, n, P, F, N, nn, .int v, lv, ln, le, li, .int (IntKind.wrap .i64 (i + 1))]) else
      if IntKind.wrap .i64 (L - v) < ci S i.toNat 8 then gAll ts 2 (.row [.int (3 : Nat), .int L, S, n, P, F, N, nn, .int v, lv, ln, le, li, .int (IntKind.wrap .i64 (i + 1))]) else
      if IntKind.wrap .i64 (v + ci S i.toNat 8) < 0 then .row [] else
      if IntKind.wrap .i64 (v + ci S i.toNat 8) < F.rows.length then
        (if (cd F (IntKind.wrap .i64 (v + ci S i.toNat 8)).toNat).toBool = true then gAll ts 2 (.row [.int (3 : Nat), .int L, S, n, P, F, N, nn, .int v, lv, ln, le, li, .int (IntKind.wrap .i64 (i + 1))]) else
        if v < 0 then .row [] else
        if v < P.rows.length then
          (if (cd P v.toNat).isNil = true then
            (if IntKind.wrap .i64 (v + ci S i.toNat 8) < P.rows.length then
              (if (N.rows.length : Int) < 1048576 then gAll ts 2 (.row [.int (3 : Nat), .int L, S, n, up P (IntKind.wrap .i64 (v + ci S i.toNat 8)).toNat (.slc false [.row [.int i]]), up F (IntKind.wrap .i64 (v + ci S i.toNat 8)).toNat (.bool true), ad N (.row [.int (IntKind.wrap .i64 (v + ci S i.toNat 8))]), .bool false, .int v, lv, ln, le, li, .int (IntKind.wrap .i64 (i + 1))])
              else .row []) else .row []) else
            (if ((cd P v.toNat).rows.length : Int) < 1048576 then
              (if ((cd P v.toNat).rows.length : Int) < 1048576 then
                (if IntKind.wrap .i64 (v + ci S i.toNat 8) < P.rows.length then
                  (if (N.rows.length : Int) < 1048576 then gAll ts 2 (.row [.int (3 : Nat), .int L, S, n, up P (IntKind.wrap .i64 (v + ci S i.toNat 8)).toNat (.slc false ((cd P v.toNat).rows ++ [.row [.int i]])), up F (IntKind.wrap .i64 (v + ci S i.toNat 8)).toNat (.bool true), ad N (.row [.int (IntKind.wrap .i64 (v + ci S i.toNat 8))]), .bool false, .int v, lv, ln, le, li, .int (IntKind.wrap .i64 (i + 1))])
                  else .row []) else .row []) else .row []) else .row [])) else .row []) else .row [])
    else gAll ts 2 (.row [.int (2 : Nat), .int L, S, n, P, F, N, nn, lv, ln, le, .int (IntKind.wrap .i64 (li.toInt + 1))]) := by
  rw [g_eq lt (T := t2) (t := t2p3) rfl rfl]
  simp only [t2p3, finT_split, finT_leaf, fin_stuck, fin_next, lss_iff]
  rfl
theorem e2_2 (S n P F N nn lv ln : D) (L le li : Int) : gAll ts 2 (.row [.int (2 : Nat), .int L, S, n, P, F, N, nn, lv, ln, .int le, .int li]) =
    if li < le then (if li < 0 then .row [] else if li < lv.rows.length then
      gAll ts 2 (.row [.int (3 : Nat), .int L, S, n, P, F, N, nn, cd lv li.toNat, lv, ln, .int le, .int li, .int 0]) else .row [])
    else gAll ts 2 (.row [.int (1 : Nat), .int L, S, n, P, F, N, nn]) := by
  rw [g_eq lt (T := t2) (t := t2p2) rfl rfl]
  simp only [t2p2, finT_split, finT_leaf, fin_stuck, fin_next, lss_iff]
  rfl
theorem e2_1 (S n P F N nn : D) (L : Int) : gAll ts 2 (.row [.int (1 : Nat), .int L, S, n, P, F, N, nn]) =
    if 0 < (N.rows.length : Int) then gAll ts 2 (.row [.int (2 : Nat), .int L, S, n, P, F, .slc true [], .bool true, N, nn, .int N.rows.length, .int 0])
    else .row [.int 1, P, .bool false, F, .bool false, .int 0] := by
  rw [g_eq lt (T := t2) (t := t2p1) rfl rfl]
  simp only [t2p1, finT_split, finT_leaf, fin_done, fin_next, lss_iff]
  rfl
theorem e2_0 (S n : D) (L : Int) : gAll ts 2 (.row [.int (0 : Nat), .int L, S, n]) =
    if L < 1 then .row [.int 1, .slc true [], .bool true, .slc true [], .bool true, .int 2] else
    if 1000 < L then .row [.int 1, .slc true [], .bool true, .slc true [], .bool true, .int 2] else
    if ((gAll ts 1 (.row [.int (0 : Nat), S, n])).cells.getD 0 default).toInt = 1 then
      (if ((gAll ts 1 (.row [.int (0 : Nat), S, n])).cells.getD 1 default).toInt < 0 then
        (if IntKind.wrap .i64 (L + 1) < 0 then .row [] else if IntKind.wrap .i64 (L + 1) < 1048577 then
          (if 0 < ((List.replicate (IntKind.wrap .i64 (L + 1)).toNat (D.row [.bool false])).length : Int) then
            gAll ts 2 (.row [.int (1 : Nat), .int L, S, n, .slc false (List.replicate (IntKind.wrap .i64 (L + 1)).toNat (.row [.slc true []])), up (.slc false (List.replicate (IntKind.wrap .i64 (L + 1)).toNat (.row [.bool false]))) 0 (.bool true), .slc false [.row [.int 0]], .bool false])
          else .row []) else .row [])
      else .row [.int 1, .slc true [], .bool true, .slc true [], .bool true, .int 2]) else .row [] := by
  rw [g_eq lt (T := t2) (t := t2p0) rfl rfl]
  simp only [t2p0, finT_split, finT_leaf, fin_stuck, fin_done, fin_next, lss_iff, eql_iff]
  rfl
end
/-- every row has one cell -/
def One (P : D) : Prop := ∀ r ∈ P.rows, ∃ x, r = .row [x]
theorem up_one {P : D} {w : Nat} {x : D} (h : One P) : One (up P w x) := by
  intro r hr
  have hr' : r ∈ P.rows.modify w fun r => .row (r.cells.set 0 x) := hr
  obtain ⟨i, hi, e⟩ := List.getElem_of_mem hr'
  rw [List.getElem_modify] at e
  have hi' : i < P.rows.length := by simpa using hi
  obtain ⟨y, hy⟩ := h _ (List.getElem_mem hi')
  split at e
  · rw [hy] at e
    exact ⟨x, e.symm⟩
  · exact ⟨y, by rw [← e]; exact hy⟩
theorem up_len {P : D} {w : Nat} {x : D} : (up P w x).rows.length = P.rows.length := by
  show (P.rows.modify w _).length = _
  simp
theorem cd_up {P : D} {w u : Nat} {x : D} (h : One P) (hw : w < P.rows.length) : cd (up P w x) u = if u = w then x else cd P u := by
  show ((P.rows.modify w fun r => D.row (r.cells.set 0 x))[u]?.getD default).cells.getD 0 default = _
  rw [List.getElem?_modify]
  split
  · rename_i q
    subst q
    obtain ⟨y, hy⟩ := h _ (List.getElem_mem hw)
    rw [List.getElem?_eq_getElem hw, hy, if_pos rfl]
    rfl
  · rename_i q
    rw [if_neg (Ne.symm q)]
    simp [cd]
/-- how many are found -/
def cnt (F : D) : Nat := F.rows.countP fun r => (r.cells.getD 0 default).toBool
theorem cnt_le {F : D} : cnt F ≤ F.rows.length := List.countP_le_length
theorem countP_mod {p : D → Bool} {f : D → D} : ∀ {l : List D} {w : Nat} (hw : w < l.length), p l[w] = false → p (f l[w]) = true → (l.modify w f).countP p = l.countP p + 1
  | x :: l, 0, hw, h, h' => by
    have h : p x = false := h
    have h' : p (f x) = true := h'
    simp [List.countP_cons, h, h']
  | x :: l, w + 1, hw, h, h' => by
    have hw' : w < l.length := by simpa using hw
    have := countP_mod (p := p) (f := f) hw' h h'
    simp only [List.modify_succ_cons, List.countP_cons, this]
    omega
theorem cnt_up {F : D} {w : Nat} (h : One F) (hw : w < F.rows.length) (hf : (cd F w).toBool = false) : cnt (up F w (.bool true)) = cnt F + 1 := by
  show (F.rows.modify w _).countP _ = _
  refine countP_mod hw ?_ ?_
  · have : cd F w = (F.rows[w]).cells.getD 0 default := by
      show (F.rows[w]?.getD default).cells.getD 0 default = _
      rw [List.getElem?_eq_getElem hw]
      rfl
    rw [← this]
    exact hf
  · obtain ⟨y, hy⟩ := h _ (List.getElem_mem hw)
    rw [hy]
    rfl
/-- whether step i is allowed at v -/
def Alw (L : Int) (S : D) (i : Nat) (v : Int) : Prop := ci S i 6 ≤ v ∧ v ≤ ci S i 7 ∧ -v ≤ ci S i 8 ∧ ci S i 8 ≤ L - v
/-- a path from a to b -/
def Leads (L : Int) (S : D) : List D → Int → Int → Prop
  | [], a, b => a = b
  | r :: rs, a, b => ∃ i : Nat, r = .row [.int i] ∧ i < S.rows.length ∧ Alw L S i a ∧ Leads L S rs (a + ci S i 8) b
theorem leads_snoc {L : Int} {S : D} {i : Nat} (hi : i < S.rows.length) {v : Int} (hv : Alw L S i v) : ∀ {rs : List D} {a : Int}, Leads L S rs a v → Leads L S (rs ++ [.row [.int i]]) a (v + ci S i 8)
  | [], a, h => by
    have h : a = v := h
    subst h
    exact ⟨i, rfl, hi, hv, rfl⟩
  | r :: rs, a, ⟨j, e, hj, ha, h⟩ => ⟨j, e, hj, ha, leads_snoc hi hv h⟩
def IsF (F : D) (w : Nat) : Prop := (cd F w).toBool = true
structure Inv (L : Nat) (S P F N : D) : Prop where
  oneP : One P
  oneF : One F
  lenP : P.rows.length = L + 1
  lenF : F.rows.length = L + 1
  f0 : IsF F 0
  path : ∀ w, w ≤ L → IsF F w → Leads L S (cd P w).rows 0 w ∧ (cd P w).rows.length ≤ cnt F
  nil : ∀ w, w ≤ L → (cd P w).isNil = true → (cd P w).rows = []
  next : ∀ x ∈ N.rows, ∃ w : Nat, x = .row [.int w] ∧ w ≤ L ∧ IsF F w
  len : N.rows.length ≤ cnt F
/-- closed under the steps below n -/
def Clo (L : Nat) (S F : D) (n : Nat) (v : Nat) : Prop := ∀ j, j < n → Alw L S j v → IsF F ((v : Int) + ci S j 8).toNat
theorem inv_step {L : Nat} {S P F N : D} (h : Inv L S P F N) {v i w : Nat} (hv : v ≤ L) (hf : IsF F v) (hi : i < S.rows.length) (ha : Alw L S i v) (hw : (w : Int) = v + ci S i 8) (hn : ¬ IsF F w) :
    Inv L S (up P w (.slc false ((cd P v).rows ++ [.row [.int i]]))) (up F w (.bool true)) (ad N (.row [.int w])) ∧ cnt (up F w (.bool true)) = cnt F + 1 ∧ (∀ u, IsF F u → IsF (up F w (.bool true)) u) ∧ (∀ u, IsF (up F w (.bool true)) u → IsF F u ∨ u = w) ∧ IsF (up F w (.bool true)) w := by
  have hwL : w ≤ L := by have := ha.2.2.2; omega
  have hwP : w < P.rows.length := by rw [h.lenP]; omega
  have hwF : w < F.rows.length := by rw [h.lenF]; omega
  have hc := cnt_up h.oneF hwF (by simpa [IsF] using hn)
  have hu : ∀ u, IsF F u → IsF (up F w (.bool true)) u := by
    intro u q
    unfold IsF
    rw [cd_up h.oneF hwF]
    split
    · rfl
    · exact q
  have hu' : ∀ u, IsF (up F w (.bool true)) u → IsF F u ∨ u = w := by
    intro u q
    unfold IsF at q
    rw [cd_up h.oneF hwF] at q
    split at q
    · rename_i e; exact .inr e
    · exact .inl q
  have hww : IsF (up F w (.bool true)) w := by
    unfold IsF
    rw [cd_up h.oneF hwF, if_pos rfl]
    rfl
  refine ⟨⟨up_one h.oneP, up_one h.oneF, up_len.trans h.lenP, up_len.trans h.lenF, hu _ h.f0, ?_, ?_, ?_, ?_⟩, hc, hu, hu', hww⟩
  · intro u hu1 hu2
    rw [cd_up h.oneP hwP, hc]
    split
    · rename_i e
      subst e
      obtain ⟨q1, q2⟩ := h.path v hv hf
      have := leads_snoc hi ha q1
      rw [← hw] at this
      refine ⟨this, ?_⟩
      show ((cd P v).rows ++ [_]).length ≤ _
      simp
      exact q2
    · rename_i e
      rcases hu' u hu2 with q | q
      · obtain ⟨q1, q2⟩ := h.path u hu1 q
        exact ⟨q1, by omega⟩
      · exact absurd q e
  · intro u hu1 hu2
    rw [cd_up h.oneP hwP] at hu2 ⊢
    split at hu2
    · cases hu2
    · rename_i e
      rw [if_neg e]
      exact h.nil u hu1 hu2
  · intro x hx
    have hx : x ∈ N.rows ++ [_] := hx
    rcases List.mem_append.1 hx with q | q
    · obtain ⟨u, e, q1, q2⟩ := h.next x q
      exact ⟨u, e, q1, hu u q2⟩
    · exact ⟨w, List.mem_singleton.1 q, hwL, hww⟩
  · show (N.rows ++ [_]).length ≤ _
    have := h.len
    simp
    omega
end Go.CH
namespace Go.CH
open Go.AE
/-! COUNTERHOLDS: counter.search finds what is closed, with paths -/
section
variable [While]
/-- what a turn over steps brings -/
structure Grow (L : Nat) (S F N F' N' : D) : Prop where
  up : ∀ u, IsF F u → IsF F' u
  new : ∀ u, IsF F' u → IsF F u ∨ D.row [.int (u : Nat)] ∈ N'.rows
  old : ∀ x, x ∈ N.rows → x ∈ N'.rows
  cnt : cnt F' + N.rows.length = cnt F + N'.rows.length
theorem Grow.refl {L : Nat} {S F N : D} : Grow L S F N F N := ⟨fun _ h => h, fun _ h => .inl h, fun _ h => h, rfl⟩
theorem Grow.trans {L : Nat} {S F N F' N' F'' N'' : D} (a : Grow L S F N F' N') (b : Grow L S F' N' F'' N'') : Grow L S F N F'' N'' :=
  ⟨fun u h => b.up u (a.up u h), fun u h => (b.new u h).elim (fun q => (a.new u q).imp id (b.old _)) .inr, fun x h => b.old x (a.old x h), by have := a.cnt; have := b.cnt; omega⟩
theorem inner {L : Nat} {S n lv ln le : D} (hL : 1 ≤ L ∧ L ≤ 1000) (hS : S.rows.length < 1000) (hA : ∀ j, j < S.rows.length → -1000 ≤ ci S j 8 ∧ ci S j 8 ≤ 1000) {v : Nat} (hv : v ≤ L) {li : Nat} :
    ∀ (k i : Nat) (P F N nn : D), i + k = S.rows.length → Inv L S P F N → IsF F v → Clo L S F i v →
    ∃ P' F' N' nn', gAll ts 2 (.row [.int (3 : Nat), .int L, S, n, P, F, N, nn, .int v, lv, ln, le, .int li, .int i]) = gAll ts 2 (.row [.int (2 : Nat), .int L, S, n, P', F', N', nn', lv, ln, le, .int (IntKind.wrap .i64 ((li : Int) + 1))]) ∧
      Inv L S P' F' N' ∧ Clo L S F' S.rows.length v ∧ Grow L S F N F' N'
  | 0, i, P, F, N, nn, hi, h, hf, hc => by
    have : i = S.rows.length := by omega
    subst this
    rw [e2_3, if_neg (by omega)]
    exact ⟨P, F, N, nn, rfl, h, hc, .refl⟩
  | k + 1, i, P, F, N, nn, hi, h, hf, hc => by
    have hiS : i < S.rows.length := by omega
    have hAi := hA i hiS
    have hskip : ∀ {x : D}, (Alw L S i v → IsF F ((v : Int) + ci S i 8).toNat) → x = gAll ts 2 (.row [.int (3 : Nat), .int L, S, n, P, F, N, nn, .int v, lv, ln, le, .int li, .int (IntKind.wrap .i64 ((i : Int) + 1))]) →
        ∃ P' F' N' nn', x = gAll ts 2 (.row [.int (2 : Nat), .int L, S, n, P', F', N', nn', lv, ln, le, .int (IntKind.wrap .i64 ((li : Int) + 1))]) ∧ Inv L S P' F' N' ∧ Clo L S F' S.rows.length v ∧ Grow L S F N F' N' := by
      intro x q e
      rw [e, wrap_i64 (by omega) (by omega), show (i : Int) + 1 = ((i + 1 : Nat) : Int) by omega]
      refine inner hL hS hA hv k (i + 1) P F N nn (by omega) h hf fun j hj ha => ?_
      rcases Nat.lt_or_ge j i with c | c
      · exact hc j c ha
      · have : j = i := by omega
        subst this
        exact q ha
    rw [e2_3, if_pos (show (i : Int) < S.rows.length by omega), if_neg (show ¬ ((i : Int) < 0) by omega)]
    rw [wrap_i64 (a := 0 - (v : Int)) (by omega) (by omega), wrap_i64 (a := (L : Int) - v) (by omega) (by omega)]
    rw [show ((i : Int)).toNat = i from rfl, wrap_i64 (a := (v : Int) + ci S i 8) (by omega) (by omega)]
    by_cases q1 : (v : Int) < ci S i 6
    · rw [if_pos q1]
      exact hskip (fun ha => by have := ha.1; omega) rfl
    rw [if_neg q1]
    by_cases q2 : ci S i 7 < v
    · rw [if_pos q2]
      exact hskip (fun ha => by have := ha.2.1; omega) rfl
    rw [if_neg q2]
    by_cases q3 : ci S i 8 < 0 - v
    · rw [if_pos q3]
      exact hskip (fun ha => by have := ha.2.2.1; omega) rfl
    rw [if_neg q3]
    by_cases q4 : (L : Int) - v < ci S i 8
    · rw [if_pos q4]
      exact hskip (fun ha => by have := ha.2.2.2; omega) rfl
    rw [if_neg q4]
    have ha : Alw L S i v := ⟨by omega, by omega, by omega, by omega⟩
    obtain ⟨w, hw⟩ : ∃ w : Nat, (w : Int) = v + ci S i 8 := ⟨((v : Int) + ci S i 8).toNat, by have := ha.2.2.1; omega⟩
    rw [← hw, if_neg (show ¬ ((w : Int) < 0) by omega), if_pos (show (w : Int) < F.rows.length by rw [h.lenF]; omega), show ((w : Int)).toNat = w from rfl, show ((v : Int)).toNat = v from rfl]
    by_cases hn : (cd F w).toBool = true
    · rw [if_pos hn]
      refine hskip (fun _ => ?_) rfl
      rw [← hw]
      exact hn
    rw [if_neg hn]
    obtain ⟨g1, g2, g3, g4, g5⟩ := inv_step h hv hf hiS ha hw hn
    have hN : N.rows.length < 1048576 := by have := h.len; have := cnt_le (F := F); have := h.lenF; omega
    have hp := h.path v hv hf
    have hpl : (cd P v).rows.length < 1048576 := by have := hp.2; have := cnt_le (F := F); have := h.lenF; omega
    have hgo : ∀ {x : D}, x = gAll ts 2 (.row [.int (3 : Nat), .int L, S, n, up P w (.slc false ((cd P v).rows ++ [.row [.int i]])), up F w (.bool true), ad N (.row [.int w]), .bool false, .int v, lv, ln, le, .int li, .int (IntKind.wrap .i64 ((i : Int) + 1))]) →
        ∃ P' F' N' nn', x = gAll ts 2 (.row [.int (2 : Nat), .int L, S, n, P', F', N', nn', lv, ln, le, .int (IntKind.wrap .i64 ((li : Int) + 1))]) ∧ Inv L S P' F' N' ∧ Clo L S F' S.rows.length v ∧ Grow L S F N F' N' := by
      intro x e
      rw [e, wrap_i64 (by omega) (by omega), show (i : Int) + 1 = ((i + 1 : Nat) : Int) by omega]
      obtain ⟨P', F', N', nn', e', i', c', gr⟩ := inner (n := n) (lv := lv) (ln := ln) (le := le) hL hS hA hv (li := li) k (i + 1) _ _ _ (.bool false) (by omega) g1 (g3 v hf) (fun j hj ha' => by
        rcases Nat.lt_or_ge j i with c | c
        · exact g3 _ (hc j c ha')
        · have : j = i := by omega
          subst this
          rw [← hw]
          exact g5)
      refine ⟨P', F', N', nn', e', i', c', Grow.trans ⟨g3, fun u q => (g4 u q).imp id fun q => ?_, fun x q => List.mem_append_left _ q, ?_⟩ gr⟩
      · subst q
        exact List.mem_append_right _ (List.mem_singleton.2 rfl)
      · rw [g2]
        show _ = _ + (N.rows ++ [_]).length
        simp
        omega
    rw [if_neg (show ¬ ((v : Int) < 0) by omega), if_pos (show (v : Int) < P.rows.length by rw [h.lenP]; omega)]
    have hwP : (w : Int) < P.rows.length := by rw [h.lenP]; have := ha.2.2.2; omega
    have hN' : (N.rows.length : Int) < 1048576 := by omega
    have hpl' : ((cd P v).rows.length : Int) < 1048576 := by omega
    by_cases q : (cd P v).isNil = true
    · rw [if_pos q, if_pos hwP, if_pos hN']
      refine hgo ?_
      rw [h.nil v hv q]
      rfl
    · rw [if_neg q, if_pos hpl', if_pos hpl', if_pos hwP, if_pos hN']
      exact hgo rfl
/-- what is found is closed, or still to come -/
def Done (L : Nat) (S F : D) (A B : List D) : Prop := ∀ u, IsF F u → Clo L S F S.rows.length u ∨ D.row [.int (u : Nat)] ∈ A ∨ D.row [.int (u : Nat)] ∈ B
theorem Clo.mono {L : Nat} {S F F' : D} {n v : Nat} (h : Clo L S F n v) (hu : ∀ u, IsF F u → IsF F' u) : Clo L S F' n v := fun j hj ha => hu _ (h j hj ha)
theorem middle {L : Nat} {S n lv ln : D} (hL : 1 ≤ L ∧ L ≤ 1000) (hS : S.rows.length < 1000) (hA : ∀ j, j < S.rows.length → -1000 ≤ ci S j 8 ∧ ci S j 8 ≤ 1000) (hlv : lv.rows.length < 1048576) :
    ∀ (k li : Nat) (P F N nn : D), li + k = lv.rows.length → Inv L S P F N → (∀ x ∈ lv.rows, ∃ w : Nat, x = .row [.int w] ∧ w ≤ L ∧ IsF F w) → Done L S F (lv.rows.drop li) N.rows →
    ∃ P' F' N' nn', gAll ts 2 (.row [.int (2 : Nat), .int L, S, n, P, F, N, nn, lv, ln, .int lv.rows.length, .int li]) = gAll ts 2 (.row [.int (1 : Nat), .int L, S, n, P', F', N', nn']) ∧
      Inv L S P' F' N' ∧ Done L S F' [] N'.rows ∧ Grow L S F N F' N'
  | 0, li, P, F, N, nn, hi, h, hlw, hd => by
    rw [e2_2, if_neg (by omega)]
    refine ⟨P, F, N, nn, rfl, h, fun u hu => (hd u hu).imp id fun q => q.elim (fun q => ?_) .inr, .refl⟩
    rw [List.drop_eq_nil_of_le (by omega)] at q
    cases q
  | k + 1, li, P, F, N, nn, hi, h, hlw, hd => by
    have hlt : li < lv.rows.length := by omega
    obtain ⟨v, ev, hv, hf⟩ := hlw _ (List.getElem_mem hlt)
    rw [e2_2, if_pos (by omega), if_neg (by omega), if_pos (by omega)]
    have ecd : cd lv ((li : Int)).toNat = .int v := by
      show (lv.rows[li]?.getD default).cells.getD 0 default = _
      rw [List.getElem?_eq_getElem hlt, Option.getD_some, ev]
      rfl
    rw [ecd]
    obtain ⟨P', F', N', nn', e, hI, hC, hG⟩ := inner (n := n) (lv := lv) (ln := ln) (le := .int lv.rows.length) hL hS hA hv (li := li) S.rows.length 0 P F N nn (by omega) h hf (fun j hj => by omega)
    have e' : gAll ts 2 (.row [.int (3 : Nat), .int L, S, n, P, F, N, nn, .int v, lv, ln, .int lv.rows.length, .int li, .int 0]) = _ := e
    rw [e', wrap_i64 (by omega) (by omega), show (li : Int) + 1 = ((li + 1 : Nat) : Int) by omega]
    obtain ⟨P2, F2, N2, nn2, e2, hI2, hD2, hG2⟩ := middle (n := n) (ln := ln) hL hS hA hlv k (li + 1) P' F' N' nn' (by omega) hI (fun x hx => by
      obtain ⟨w, q1, q2, q3⟩ := hlw x hx
      exact ⟨w, q1, q2, hG.up w q3⟩) (fun u hu => by
      rcases hG.new u hu with q | q
      · rcases hd u q with q | q | q
        · exact .inl (q.mono hG.up)
        · rw [List.drop_eq_getElem_cons hlt, ev] at q
          rcases List.mem_cons.1 q with q | q
          · have : u = v := by
              injection q with q; injection q with q; injection q with q; omega
            subst this
            exact .inl hC
          · exact .inr (.inl q)
        · exact .inr (.inr (hG.old _ q))
      · exact .inr (.inr q))
    exact ⟨P2, F2, N2, nn2, e2, hI2, hD2, hG.trans hG2⟩
theorem outer {L : Nat} {S n : D} (hL : 1 ≤ L ∧ L ≤ 1000) (hS : S.rows.length < 1000) (hA : ∀ j, j < S.rows.length → -1000 ≤ ci S j 8 ∧ ci S j 8 ≤ 1000) :
    ∀ (m : Nat) (P F N nn : D), L + 1 - cnt F ≤ m → Inv L S P F N → Done L S F [] N.rows →
    ∃ P' F', gAll ts 2 (.row [.int (1 : Nat), .int L, S, n, P, F, N, nn]) = .row [.int 1, P', .bool false, F', .bool false, .int 0] ∧
      Inv L S P' F' (.slc true []) ∧ ∀ u, IsF F' u → Clo L S F' S.rows.length u := by
  have hnil : ∀ {P F N : D}, Inv L S P F N → Inv L S P F (.slc true []) := fun h => ⟨h.oneP, h.oneF, h.lenP, h.lenF, h.f0, h.path, h.nil, fun x hx => (by cases hx), Nat.zero_le _⟩
  have hstop : ∀ {P F N nn : D}, N.rows.length = 0 → Inv L S P F N → Done L S F [] N.rows → ∃ P' F', gAll ts 2 (.row [.int (1 : Nat), .int L, S, n, P, F, N, nn]) = .row [.int 1, P', .bool false, F', .bool false, .int 0] ∧
      Inv L S P' F' (.slc true []) ∧ ∀ u, IsF F' u → Clo L S F' S.rows.length u := by
    intro P F N nn h0 h hd
    rw [e2_1, if_neg (by omega)]
    refine ⟨P, F, rfl, hnil h, fun u hu => ?_⟩
    rcases hd u hu with q | q | q
    · exact q
    · cases q
    · rw [List.eq_nil_of_length_eq_zero h0] at q
      cases q
  have hgo : ∀ {P F N nn : D}, 0 < N.rows.length → Inv L S P F N → Done L S F [] N.rows → ∃ P' F' N' nn', gAll ts 2 (.row [.int (1 : Nat), .int L, S, n, P, F, N, nn]) = gAll ts 2 (.row [.int (1 : Nat), .int L, S, n, P', F', N', nn']) ∧
      Inv L S P' F' N' ∧ Done L S F' [] N'.rows ∧ cnt F' = cnt F + N'.rows.length := by
    intro P F N nn h0 h hd
    have hN : N.rows.length < 1048576 := by have := h.len; have := cnt_le (F := F); have := h.lenF; omega
    rw [e2_1, if_pos (by omega)]
    obtain ⟨P', F', N', nn', e, hI, hD, hG⟩ := middle (n := n) (lv := N) (ln := nn) hL hS hA hN N.rows.length 0 P F (.slc true []) (.bool true) (by omega) (hnil h) h.next (fun u hu => (hd u hu).imp id fun q => q.elim (fun q => by cases q) .inl)
    exact ⟨P', F', N', nn', e, hI, hD, by have := hG.cnt; exact this⟩
  intro m
  induction m with
  | zero =>
    intro P F N nn hm h hd
    rcases Nat.eq_zero_or_pos N.rows.length with q | q
    · exact hstop q h hd
    · obtain ⟨P', F', N', nn', e, hI, hD, hc⟩ := hgo (nn := nn) q h hd
      rw [e]
      have := cnt_le (F := F')
      have := hI.lenF
      exact hstop (by omega) hI hD
  | succ m ih =>
    intro P F N nn hm h hd
    rcases Nat.eq_zero_or_pos N.rows.length with q | q
    · exact hstop q h hd
    · obtain ⟨P', F', N', nn', e, hI, hD, hc⟩ := hgo (nn := nn) q h hd
      rw [e]
      rcases Nat.eq_zero_or_pos N'.rows.length with q' | q'
      · exact hstop q' hI hD
      · exact ih P' F' N' nn' (by omega) hI hD
/-- what search says -/
theorem search_eq (S n : D) (L : Int) (hS : S.rows.length < 1000) :
    gAll ts 2 (.row [.int (0 : Nat), .int L, S, n]) = .row [.int 1, .slc true [], .bool true, .slc true [], .bool true, .int 2] ∨
    ∃ (m : Nat) (P F : D), L = m ∧ 1 ≤ m ∧ m ≤ 1000 ∧ (∀ j, j < S.rows.length → -1000 ≤ ci S j 8 ∧ ci S j 8 ≤ 1000) ∧ gAll ts 2 (.row [.int (0 : Nat), .int L, S, n]) = .row [.int 1, P, .bool false, F, .bool false, .int 0] ∧
      Inv m S P F (.slc true []) ∧ ∀ u, IsF F u → Clo m S F S.rows.length u := by
  rw [e2_0]
  by_cases h1 : L < 1
  · rw [if_pos h1]; exact .inl rfl
  rw [if_neg h1]
  by_cases h2 : 1000 < L
  · rw [if_pos h2]; exact .inl rfl
  rw [if_neg h2]
  obtain ⟨r, e, hr⟩ := idx_eq S n hS
  have e1 : ((gAll ts 1 (.row [.int (0 : Nat), S, n])).cells.getD 0 default).toInt = 1 := by rw [e]; rfl
  have e2 : ((gAll ts 1 (.row [.int (0 : Nat), S, n])).cells.getD 1 default).toInt = r := by rw [e]; rfl
  rw [if_pos e1, e2]
  by_cases h3 : r < 0
  · obtain ⟨m, rfl⟩ : ∃ m : Nat, L = m := ⟨L.toNat, by omega⟩
    right
    refine ⟨m, ?_⟩
    rw [if_pos h3, wrap_i64 (by omega) (by omega), if_neg (by omega), if_pos (by omega), show ((m : Int) + 1).toNat = m + 1 by omega]
    rw [if_pos (by simp)]
    have one1 : One (.slc false (List.replicate (m + 1) (.row [.slc true []]))) := fun r hr => ⟨_, List.eq_of_mem_replicate hr⟩
    have one2 : One (.slc false (List.replicate (m + 1) (.row [.bool false]))) := fun r hr => ⟨_, List.eq_of_mem_replicate hr⟩
    have len2 : (D.slc false (List.replicate (m + 1) (D.row [.bool false]))).rows.length = m + 1 := by
      show (List.replicate _ _).length = _
      simp
    have cd1 : ∀ w, w ≤ m → cd (.slc false (List.replicate (m + 1) (.row [.slc true []]))) w = .slc true [] := by
      intro w hw
      show ((List.replicate (m + 1) (D.row [.slc true []]))[w]?.getD default).cells.getD 0 default = _
      rw [List.getElem?_replicate, if_pos (by omega)]
      rfl
    have cd2 : ∀ w, (cd (.slc false (List.replicate (m + 1) (.row [.bool false]))) w).toBool = false := by
      intro w
      show (((List.replicate (m + 1) (D.row [.bool false]))[w]?.getD default).cells.getD 0 default).toBool = _
      rw [List.getElem?_replicate]
      split <;> rfl
    have hcnt := cnt_up one2 (w := 0) (by rw [len2]; omega) (cd2 0)
    have hF : ∀ w, IsF (up (.slc false (List.replicate (m + 1) (.row [.bool false]))) 0 (.bool true)) w ↔ w = 0 := by
      intro w
      unfold IsF
      rw [cd_up one2 (by rw [len2]; omega)]
      split
      · rename_i q; exact ⟨fun _ => q, fun _ => rfl⟩
      · rename_i q
        rw [cd2]
        exact ⟨fun h => (by cases h), fun h => absurd h q⟩
    have hI : Inv m S (.slc false (List.replicate (m + 1) (.row [.slc true []]))) (up (.slc false (List.replicate (m + 1) (.row [.bool false]))) 0 (.bool true)) (.slc false [.row [.int 0]]) := by
      refine ⟨one1, up_one one2, ?_, up_len.trans len2, (hF 0).2 rfl, ?_, ?_, ?_, ?_⟩
      · show (List.replicate _ _).length = _
        simp
      · intro w hw hf
        have := (hF w).1 hf
        subst this
        rw [cd1 0 hw]
        exact ⟨rfl, Nat.zero_le _⟩
      · intro w hw _
        rw [cd1 w hw]
        rfl
      · intro x hx
        exact ⟨0, List.mem_singleton.1 hx, Nat.zero_le _, (hF 0).2 rfl⟩
      · rw [hcnt]
        exact Nat.le_add_left 1 _
    obtain ⟨P', F', e', hI', hc'⟩ := outer (n := n) (L := m) ⟨by omega, by omega⟩ hS (hr h3) (m + 1) _ _ _ (.bool false) (by omega) hI (fun u hu => by
      have := (hF u).1 hu
      subst this
      exact .inr (.inr (List.mem_singleton.2 rfl)))
    exact ⟨P', F', rfl, by omega, by omega, hr h3, e', hI', hc'⟩
  · rw [if_neg h3]; exact .inl rfl
end
end Go.CH
namespace Go.CH
open Go.AE
/-! COUNTERHOLDS: Reach, New, Put -/
section
variable [While]
theorem e3_1 (O on e F fb S : D) (n v : Int) : gAll ts 3 (.row [.int (1 : Nat), O, on, e, F, fb, .int n, .int v, S]) =
    if v < n then (if v < 0 then .row [] else if v < F.rows.length then
      (if (cd F v.toNat).toBool = true then
        (if (O.rows.length : Int) < 1048576 then gAll ts 3 (.row [.int (1 : Nat), ad O (.row [.int v]), .bool false, e, F, fb, .int n, .int (IntKind.wrap .i64 (v + 1)), S]) else .row [])
      else gAll ts 3 (.row [.int (1 : Nat), O, on, e, F, fb, .int n, .int (IntKind.wrap .i64 (v + 1)), S])) else .row [])
    else .row [.int 1, O, on, e] := by
  rw [g_eq lt (T := t3) (t := t3p1) rfl rfl]
  simp only [t3p1, finT_split, finT_leaf, fin_stuck, fin_done, fin_next, lss_iff]
  rfl
theorem reach_loop {e F fb S : D} (hF : F.rows.length < 1048576) : ∀ (k i : Nat) (O on : D), i + k = F.rows.length → O.rows.length ≤ i →
    ∃ O' on', gAll ts 3 (.row [.int (1 : Nat), O, on, e, F, fb, .int F.rows.length, .int i, S]) = .row [.int 1, O', on', e] ∧
      (∀ x, x ∈ O'.rows ↔ x ∈ O.rows ∨ ∃ w : Nat, i ≤ w ∧ w < F.rows.length ∧ IsF F w ∧ x = .row [.int w]) ∧ O'.rows.length ≤ F.rows.length
  | 0, i, O, on, hi, hO => by
    rw [e3_1, if_neg (by omega)]
    exact ⟨O, on, rfl, fun x => ⟨.inl, fun h => h.elim id fun ⟨w, h1, h2, _⟩ => by omega⟩, by omega⟩
  | k + 1, i, O, on, hi, hO => by
    rw [e3_1, if_pos (by omega), if_neg (by omega), if_pos (by omega), show ((i : Int)).toNat = i from rfl, wrap_i64 (by omega) (by omega), show (i : Int) + 1 = ((i + 1 : Nat) : Int) by omega]
    by_cases q : (cd F i).toBool = true
    · rw [if_pos q, if_pos (by omega)]
      obtain ⟨O', on', e', h, hl⟩ := reach_loop (e := e) (fb := fb) (S := S) hF k (i + 1) (ad O (.row [.int i])) (.bool false) (by omega) (by
        show (O.rows ++ [_]).length ≤ _
        simp
        exact hO)
      refine ⟨O', on', e', fun x => ?_, hl⟩
      rw [h x]
      constructor
      · rintro (c | ⟨w, h1, h2, h3, h4⟩)
        · rcases List.mem_append.1 (show x ∈ O.rows ++ [_] from c) with c | c
          · exact .inl c
          · exact .inr ⟨i, by omega, by omega, q, List.mem_singleton.1 c⟩
        · exact .inr ⟨w, by omega, h2, h3, h4⟩
      · rintro (c | ⟨w, h1, h2, h3, h4⟩)
        · exact .inl (List.mem_append_left _ c)
        · by_cases hw : w = i
          · subst hw
            exact .inl (List.mem_append_right _ (List.mem_singleton.2 h4))
          · exact .inr ⟨w, by omega, h2, h3, h4⟩
    · rw [if_neg q]
      obtain ⟨O', on', e', h, hl⟩ := reach_loop (e := e) (fb := fb) (S := S) hF k (i + 1) O on (by omega) (by omega)
      refine ⟨O', on', e', fun x => ?_, hl⟩
      rw [h x]
      constructor
      · rintro (c | ⟨w, h1, h2, h3, h4⟩)
        · exact .inl c
        · exact .inr ⟨w, by omega, h2, h3, h4⟩
      · rintro (c | ⟨w, h1, h2, h3, h4⟩)
        · exact .inl c
        · by_cases hw : w = i
          · subst hw
            exact absurd h3 q
          · exact .inr ⟨w, by omega, h2, h3, h4⟩
theorem e3_0 (S n : D) (L : Int) (P pb F fb e : D) (h : gAll ts 2 (.row [.int (0 : Nat), .int L, S, n]) = .row [.int 1, P, pb, F, fb, e]) :
    gAll ts 3 (.row [.int (0 : Nat), .int L, S, n]) = gAll ts 3 (.row [.int (1 : Nat), .slc true [], .bool true, e, F, fb, .int F.rows.length, .int (0 : Nat), S]) := by
  rw [g_eq lt (T := t3) (t := t3p0) rfl rfl]
  simp only [t3p0, finT_split, finT_leaf, fin_stuck, fin_next, eql_iff]
  have e1 : evalD (atV ts [.int L, S, n]) (.app 2 (.rcons (.c 0) (.rcons (.var 0) (.rcons (.var 1) (.rcons (.var 2) .rnil))))) = .row [.int 1, P, pb, F, fb, e] := h
  simp only [evalD, List.map_cons, List.map_nil] at e1 ⊢
  simp only [e1]
  rfl
/-- what Reach says -/
theorem reach_eq (S n : D) (L : Int) (hS : S.rows.length < 1000) :
    (∃ O on, gAll ts 3 (.row [.int (0 : Nat), .int L, S, n]) = .row [.int 1, O, on, .int 2]) ∨
    ∃ (m : Nat) (P F O on : D), L = m ∧ 1 ≤ m ∧ m ≤ 1000 ∧ (∀ j, j < S.rows.length → -1000 ≤ ci S j 8 ∧ ci S j 8 ≤ 1000) ∧ gAll ts 2 (.row [.int (0 : Nat), .int L, S, n]) = .row [.int 1, P, .bool false, F, .bool false, .int 0] ∧
      Inv m S P F (.slc true []) ∧ (∀ u, IsF F u → Clo m S F S.rows.length u) ∧ gAll ts 3 (.row [.int (0 : Nat), .int L, S, n]) = .row [.int 1, O, on, .int 0] ∧
      (∀ x, x ∈ O.rows ↔ ∃ w : Nat, w ≤ m ∧ IsF F w ∧ x = .row [.int w]) ∧ O.rows.length ≤ m + 1 := by
  rcases search_eq S n L hS with h | ⟨m, P, F, rfl, h1, h2, h3, h4, h5, h6⟩
  · left
    rw [e3_0 S n L _ _ _ _ _ h]
    obtain ⟨O', on', e', _⟩ := reach_loop (e := .int 2) (F := .slc true []) (fb := .bool true) (S := S) (by show 0 < _; omega) 0 0 (.slc true []) (.bool true) rfl (Nat.le_refl _)
    exact ⟨O', on', e'⟩
  · right
    have hl := h5.lenF
    obtain ⟨O', on', e', h, hl'⟩ := reach_loop (e := .int 0) (F := F) (fb := .bool false) (S := S) (by omega) F.rows.length 0 (.slc true []) (.bool true) (by omega) (Nat.le_refl _)
    refine ⟨m, P, F, O', on', rfl, h1, h2, h3, h4, h5, h6, by rw [e3_0 S n m _ _ _ _ _ h4]; exact e', fun x => ?_, by omega⟩
    rw [h x]
    constructor
    · rintro (c | ⟨w, c1, c2, c3, c4⟩)
      · cases c
      · exact ⟨w, by omega, c3, c4⟩
    · rintro ⟨w, c1, c3, c4⟩
      exact .inr ⟨w, by omega, by omega, c3, c4⟩
/-- the name -/
def nN : D := .str ⟨(unpackL 1 110).toArray⟩
theorem nN_ne : strEq nN.toStr.data.toList.length (packL nN.toStr.data.toList) 0 0 = false := rfl
theorem nN_eq : D.strEq nN nN = true := rfl
/-- the string at cell 0 is empty -/
def em (x : D) : Bool := strEq x.toStr.data.toList.length (packL x.toStr.data.toList) 0 0
theorem e5_1 (l b B bn : D) (i : Int) : gAll ts 5 (.row [.int (1 : Nat), l, b, .int i, B, bn]) =
    if i < l.rows.length then (if i < 0 then .row [] else if em (cd l i.toNat) = true then .row [.int 1] else
      if ci l i.toNat 1 < 1 then .row [.int 1] else if 1000 < ci l i.toNat 1 then .row [.int 1] else
      if ((gAll ts 4 (.row [.int (0 : Nat), B, bn, cd l i.toNat])).cells.getD 0 default).toInt = 1 then
        (if ((gAll ts 4 (.row [.int (0 : Nat), B, bn, cd l i.toNat])).cells.getD 1 default).toInt < 0 then
          (if (B.rows.length : Int) < 1048576 then gAll ts 5 (.row [.int (1 : Nat), l, b, .int (IntKind.wrap .i64 (i + 1)), ad B (.row [cd l i.toNat, (l.rows.getD i.toNat default).cells.getD 1 default, .int 0]), .bool false]) else .row [])
        else .row [.int 1]) else .row [])
    else .row [.int 2, B, bn] := by
  rw [g_eq lt (T := t5) (t := t5p1) rfl rfl]
  simp only [t5p1, finT_split, finT_leaf, fin_stuck, fin_done, fin_next, lss_iff, eql_iff]
  rfl
theorem e5_0 (l b : D) : gAll ts 5 (.row [.int (0 : Nat), l, b]) = if 4 < (l.rows.length : Int) then .row [.int 1] else gAll ts 5 (.row [.int (1 : Nat), l, b, .int 0, .slc true [], .bool true]) := by
  rw [g_eq lt (T := t5) (t := t5p0) rfl rfl]
  simp only [t5p0, finT_split, finT_leaf, fin_done, fin_next, lss_iff]
  rfl
/-- New with one counter -/
theorem new_eq (L : Int) (b : D) (h1 : 1 ≤ L) (h2 : L ≤ 1000) : gAll ts 5 (.row [.int (0 : Nat), .slc false [.row [nN, .int L]], b]) = .row [.int 2, .slc false [.row [nN, .int L, .int 0]], .bool false] := by
  have hf := find_none (.bool true) nN
  have w1 : IntKind.wrap .i64 (0 + 1) = 1 := rfl
  rw [e5_0]
  refine (if_neg (show ¬ ((4 : Int) < (1 : Nat)) by decide)).trans ?_
  rw [e5_1]
  refine (if_pos (show (0 : Int) < (1 : Nat) by decide)).trans ?_
  refine (if_neg (show ¬ ((0 : Int) < 0) by decide)).trans ?_
  refine (if_neg (show ¬ (false = true) by decide)).trans ?_
  refine (if_neg (show ¬ (L < 1) by omega)).trans ?_
  refine (if_neg (show ¬ (1000 < L) by omega)).trans ?_
  rw [show cd (D.slc false [.row [nN, .int L]]) ((0 : Int)).toNat = nN from rfl, hf, w1]
  refine (if_pos rfl).trans ?_
  refine (if_pos (show (-1 : Int) < 0 by decide)).trans ?_
  refine (if_pos (show ((0 : Nat) : Int) < 1048576 by decide)).trans ?_
  rw [e5_1]
  exact if_neg (show ¬ ((1 : Int) < (1 : Nat)) by decide)
theorem e6_2 (l b B e : D) (c : D) (n i : Int) : gAll ts 6 (.row [.int (2 : Nat), l, b, .int n, .int i, e, B, c]) =
    if i < n then (if i < 0 then .row [] else if i < l.rows.length then (if i < B.rows.length then
      gAll ts 6 (.row [.int (2 : Nat), l, b, .int n, .int (IntKind.wrap .i64 (i + 1)), e, .slc B.isNil (B.rows.modify i.toNat fun r => .row (r.cells.set 2 (cd l i.toNat))), c]) else .row []) else .row [])
    else .row [.int 1, .int 0, B] := by
  rw [g_eq lt (T := t6) (t := t6p2) rfl rfl]
  simp only [t6p2, finT_split, finT_leaf, fin_stuck, fin_done, fin_next, lss_iff]
  rfl
theorem e6_1 (l b B e : D) (c : D) (i : Int) : gAll ts 6 (.row [.int (1 : Nat), l, b, .int i, e, B, c]) =
    if i < l.rows.length then (if i < 0 then .row [] else if ci l i.toNat 0 < 0 then .row [.int 1, .int 3, B] else if i < B.rows.length then
      (if ci B i.toNat 1 < ci l i.toNat 0 then .row [.int 1, .int 3, B] else
      gAll ts 6 (.row [.int (1 : Nat), l, b, .int (IntKind.wrap .i64 (i + 1)), e, B, c])) else .row [])
    else gAll ts 6 (.row [.int (2 : Nat), l, b, .int l.rows.length, .int 0, e, B, c]) := by
  rw [g_eq lt (T := t6) (t := t6p1) rfl rfl]
  simp only [t6p1, finT_split, finT_leaf, fin_stuck, fin_done, fin_next, lss_iff]
  rfl
theorem e6_0 (l b B e c : D) : gAll ts 6 (.row [.int (0 : Nat), e, B, c, l, b]) =
    if e.toBool = true then (if (l.rows.length : Int) = B.rows.length then gAll ts 6 (.row [.int (1 : Nat), l, b, .int 0, e, B, c]) else .row [.int 1, .int 2, B]) else .row [.int 1, .int 1, B] := by
  rw [g_eq lt (T := t6) (t := t6p0) rfl rfl]
  simp only [t6p0, finT_split, finT_leaf, fin_done, fin_next, eql_iff]
  rfl
/-- Put of 0 in a bank of one counter -/
theorem put_eq (n v : D) (L : Int) (k : Bool) (b c : D) (h1 : 1 ≤ L) : gAll ts 6 (.row [.int (0 : Nat), .bool true, .slc k [.row [n, .int L, v]], c, .slc false [.row [.int 0]], b]) = .row [.int 1, .int 0, .slc k [.row [n, .int L, .int 0]]] := by
  have w1 : IntKind.wrap .i64 (0 + 1) = 1 := rfl
  rw [e6_0]
  refine (if_pos rfl).trans ?_
  refine (if_pos rfl).trans ?_
  rw [e6_1]
  refine (if_pos (show (0 : Int) < (1 : Nat) by decide)).trans ?_
  refine (if_neg (show ¬ ((0 : Int) < 0) by decide)).trans ?_
  refine (if_neg (show ¬ ((0 : Int) < 0) by decide)).trans ?_
  refine (if_pos (show (0 : Int) < (1 : Nat) by decide)).trans ?_
  refine (if_neg (show ¬ (L < 0) by omega)).trans ?_
  rw [w1, e6_1]
  refine (if_neg (show ¬ ((1 : Int) < (1 : Nat)) by decide)).trans ?_
  rw [e6_2]
  refine (if_pos (show (0 : Int) < (1 : Nat) by decide)).trans ?_
  refine (if_neg (show ¬ ((0 : Int) < 0) by decide)).trans ?_
  refine (if_pos (show (0 : Int) < (1 : Nat) by decide)).trans ?_
  refine (if_pos (show (0 : Int) < (1 : Nat) by decide)).trans ?_
  rw [w1, e6_2]
  exact if_neg (show ¬ ((1 : Int) < (1 : Nat)) by decide)
end
end Go.CH
namespace Go.CH
open Go.AE
/-! COUNTERHOLDS: the law's own loops -/
section
variable [While]
theorem e7_6 (L ch own on l ln i v g B Bn : D) : gAll ts 7 (.row [.int (6 : Nat), L, ch, own, on, l, ln, i, v, g, B, Bn]) = gAll ts 7 (.row [.int (3 : Nat), L, ch, own, on, l, ln, i, v, g, .bool false, .int 0, B, Bn]) := by
  rw [g_eq lt (T := t7) (t := t7p6) rfl rfl]
  rfl
theorem e7_3 (L ch own on l ln B Bn : D) (i v g k : Int) (f : Bool) : gAll ts 7 (.row [.int (3 : Nat), L, ch, own, on, l, ln, .int i, .int v, .int g, .bool f, .int k, B, Bn]) =
    if k < l.rows.length then (if f = true then gAll ts 7 (.row [.int (3 : Nat), L, ch, own, on, l, ln, .int i, .int v, .int g, .bool true, .int (IntKind.wrap .i64 (k + 1)), B, Bn]) else
      if k < 0 then .row [] else gAll ts 7 (.row [.int (3 : Nat), L, ch, own, on, l, ln, .int i, .int v, .int g, .bool (ci l k.toNat 0 == v), .int (IntKind.wrap .i64 (k + 1)), B, Bn]))
    else if g = 0 then (if f = true then gAll ts 7 (.row [.int (2 : Nat), L, ch, own, on, l, ln, .int (IntKind.wrap .i64 (i + 1)), B, Bn]) else .row [.int 1, .bool false]) else .row [.int 1, .bool false] := by
  rw [g_eq lt (T := t7) (t := t7p3) rfl rfl]
  simp only [t7p3, finT_split, finT_leaf, fin_stuck, fin_done, fin_next, lss_iff, eql_iff]
  rfl
/-- the value is among those that can be reached -/
theorem found_loop {L ch own on l ln B Bn : D} {i v : Int} (hl : l.rows.length < 1048576) (hv : D.row [.int v] ∈ l.rows) : ∀ (n k : Nat) (f : Bool), k + n = l.rows.length → (f = true ∨ D.row [.int v] ∈ l.rows.drop k) →
    gAll ts 7 (.row [.int (3 : Nat), L, ch, own, on, l, ln, .int i, .int v, .int 0, .bool f, .int k, B, Bn]) = gAll ts 7 (.row [.int (2 : Nat), L, ch, own, on, l, ln, .int (IntKind.wrap .i64 (i + 1)), B, Bn])
  | 0, k, f, hk, hf => by
    rw [e7_3, if_neg (by omega), if_pos rfl]
    refine if_pos (hf.elim id fun q => ?_)
    rw [List.drop_eq_nil_of_le (by omega)] at q
    cases q
  | n + 1, k, f, hk, hf => by
    rw [e7_3, if_pos (by omega), wrap_i64 (by omega) (by omega), show (k : Int) + 1 = ((k + 1 : Nat) : Int) by omega]
    by_cases q : f = true
    · rw [if_pos q]
      exact found_loop hl hv n (k + 1) true (by omega) (.inl rfl)
    · rw [if_neg q, if_neg (by omega)]
      refine found_loop hl hv n (k + 1) _ (by omega) ?_
      rcases hf with c | c
      · exact absurd c q
      · have hlt : k < l.rows.length := by omega
        rw [List.drop_eq_getElem_cons hlt] at c
        rcases List.mem_cons.1 c with c | c
        · left
          have : ci l ((k : Int)).toNat 0 = v := by
            show ((l.rows[k]?.getD default).cells.getD 0 default).toInt = v
            rw [List.getElem?_eq_getElem hlt, Option.getD_some, ← c]
            rfl
          rw [this]
          exact beq_self_eq_true v
        · exact .inr c
theorem fT {V : Val} {e : SB} {a b : Tr Plf} {k : Nat} (h : evalB V e = true) : finT ts k V (.split e a b) = finT ts k V a := by rw [finT_split, if_pos h]
theorem fF {V : Val} {e : SB} {a b : Tr Plf} {k : Nat} (h : evalB V e = false) : finT ts k V (.split e a b) = finT ts k V b := by rw [finT_split, if_neg (by rw [h]; decide)]
end
theorem lss_t {V : Val} {a b : SE} {x y : Int} (ha : (evalD V a).toInt = x) (hb : (evalD V b).toInt = y) (h : x < y) : evalB V (.lss a b) = true := lss_iff.2 (by rw [ha, hb]; exact h)
theorem lss_f {V : Val} {a b : SE} {x y : Int} (ha : (evalD V a).toInt = x) (hb : (evalD V b).toInt = y) (h : ¬ x < y) : evalB V (.lss a b) = false := by
  cases q : evalB V (.lss a b)
  · rfl
  · exact absurd (lss_iff.1 q) (by rw [ha, hb]; exact h)
theorem eql_t {V : Val} {a b : SE} {x : Int} (ha : (evalD V a).toInt = x) (hb : (evalD V b).toInt = x) : evalB V (.eql a b) = true := eql_iff.2 (ha.trans hb.symm)
theorem sel_i {V : Val} {a : SE} {r : List D} {j : Nat} {x : Int} (h : evalD V a = .row r) (h' : (r.getD j default).toInt = x) : (evalD V (.sel a j)).toInt = x := by
  show ((evalD V a).cells.getD j default).toInt = x
  rw [h]
  exact h'
/-- the choice of a step -/
theorem pick {x : Int} {n : Nat} (hn : 0 < n) (hn' : n < 1000) : ∃ j : Nat, j < n ∧ (match intBin .rem .i64 (IntKind.wrap .i64 (IntKind.wrap .u8 x)) n with | some (.int _ n) => n | _ => 0) = (j : Int) := by
  have h0 : 0 ≤ IntKind.wrap .u8 x ∧ IntKind.wrap .u8 x < 256 := by
    have : IntKind.wrap .u8 x = x % 256 := rfl
    omega
  rw [wrap_i64 (by omega) (by omega)]
  obtain ⟨c, hc⟩ : ∃ c : Nat, IntKind.wrap .u8 x = c := ⟨(IntKind.wrap .u8 x).toNat, by omega⟩
  rw [hc]
  refine ⟨c % n, Nat.mod_lt _ hn, ?_⟩
  have : ((n : Int) == 0) = false := by simp; omega
  show (match (match ((n : Int) == 0) with | true => none | false => some (AV.int .i64 ((c : Int).tmod n))) with | some (.int _ n) => n | _ => 0) = _
  rw [this]
  show (c : Int).tmod n = _
  rw [← Int.ofNat_tmod]
end Go.CH
namespace Go.CH
open Go.AE
/-! COUNTERHOLDS: one step of the law's first loop -/
def a4 (B Bn s : SE) : SE := .app 4 (.rcons (.c 0) (.rcons B (.rcons Bn (.rcons s .rnil))))
def tl (B : SE) : Tr Plf := .split (.eql (.sel (a4 B (.var 8) (.strc 1 110)) 0) (.c 1)) (
  .split (.lss (.sel (a4 B (.var 8) (.strc 1 110)) 1) (.c 0)) (
   .leaf (.next 6 [.var 0, .var 1, .var 2, .var 3, .var 4, .var 5, .var 6, .c 0, .c 9, B, .var 8])) (
   .split (.lss (.sel (a4 B (.var 8) (.strc 1 110)) 1) (.lenL (.var 7))) (
    .leaf (.next 6 [.var 0, .var 1, .var 2, .var 3, .var 4, .var 5, .var 6, .cell B (.sel (a4 B (.var 8) (.strc 1 110)) 1) 2, .c 0, B, .var 8])) (
    .leaf .stuck))) (
  .leaf .stuck)
def jE : SE := .arith .rem .i64 (.conv .i64 (.conv .u8 (.cell (.var 1) (.var 6) 0))) (.lenL (.var 2))
def iE : SE := .sel (a4 (.var 7) (.var 8) (.cell (.var 2) jE 5)) 1
def vE : SE := .cell (.var 7) iE 2
def tp : Tr Plf := .split (.lss (.var 6) (.lenL (.var 1))) (
 .split (.lss (.c 0) (.lenL (.var 2))) (
  .split (.lss (.var 6) (.c 0)) (.leaf .stuck) (
  .split (.lss jE (.c 0)) (.leaf .stuck) (
  .split (.lss jE (.lenL (.var 2))) (
   .split (.eqS (.cell (.var 2) jE 5) 0 0) (tl (.var 7)) (
   .split (.eql (.sel (a4 (.var 7) (.var 8) (.cell (.var 2) jE 5)) 0) (.c 1)) (
    .split (.lss iE (.c 0)) (tl (.var 7)) (
    .split (.lss iE (.lenL (.var 7))) (
     .split (.lss vE (.cell (.var 2) jE 6)) (tl (.var 7)) (
     .split (.lss (.cell (.var 2) jE 7) vE) (tl (.var 7)) (
     .split (.lss (.cell (.var 2) jE 8) (.arith .sub .i64 (.c 0) vE)) (tl (.var 7)) (
     .split (.lss (.arith .sub .i64 (.cell (.var 7) iE 1) vE) (.cell (.var 2) jE 8)) (tl (.var 7)) (
       tl (.upd (.var 7) iE 2 (.arith .add .i64 vE (.cell (.var 2) jE 8)))))))) (.leaf .stuck))) (.leaf .stuck))) (.leaf .stuck)))) (tl (.var 7)))
 (.leaf (.next 4 [.var 0, .var 2, .var 3, .var 4, .var 5, .c 0, .bc true, .lenL (.var 7), .var 8, .var 7]))
theorem tp_eq : t7p2 = tp := rfl
section
variable [While]
/-- the bank -/
def bank (k : Bool) (L v : Int) : D := .slc k [.row [nN, .int L, .int v]]
theorem find_bank (k : Bool) (L v : Int) (Bn : D) : gAll ts 4 (.row [.int (0 : Nat), bank k L v, Bn, nN]) = .row [.int 1, .int 0] := find_one _ _ _ (by show 0 < 1; omega) nN_eq
theorem tl_eq {L ch own on l ln i Bn B : D} {Be : SE} {k k' : Bool} {M v v' : Int} (hB : B = bank k M v) (h : evalD (atV ts [L, ch, own, on, l, ln, i, B, Bn]) Be = bank k' M v') :
    finT ts 7 (atV ts [L, ch, own, on, l, ln, i, B, Bn]) (tl Be) = gAll ts 7 (.row [.int (6 : Nat), L, ch, own, on, l, ln, i, .int v', .int 0, bank k' M v', Bn]) := by
  have h4 : evalD (atV ts [L, ch, own, on, l, ln, i, B, Bn]) (a4 Be (.var 8) (.strc 1 110)) = .row [.int 1, .int 0] := by
    show gAll ts 4 (.row [.int (0 : Nat), evalD _ Be, Bn, nN]) = _
    rw [h]
    exact find_bank k' M v' Bn
  unfold tl
  rw [fT (eql_t (sel_i h4 rfl) rfl), fF (lss_f (x := 0) (y := 0) (sel_i h4 rfl) rfl (by decide)), fT (lss_t (x := 0) (y := 1) (sel_i h4 rfl) (by subst hB; rfl) (by decide))]
  rw [finT_leaf, fin_next]
  have hc : evalD (atV ts [L, ch, own, on, l, ln, i, B, Bn]) (.cell Be (.sel (a4 Be (.var 8) (.strc 1 110)) 1) 2) = .int v' := by
    show (((evalD _ Be).rows.getD (evalD _ (.sel (a4 Be (.var 8) (.strc 1 110)) 1)).toInt.toNat default).cells.getD 2 default) = _
    rw [h, sel_i (x := 0) h4 rfl]
    rfl
  simp only [List.map_cons, List.map_nil, hc, h]
  rfl
theorem turn {m : Nat} {S P F ch own on l ln Bn : D} {k : Bool} {i : Nat} {v : Nat} (hm : 1 ≤ m ∧ m ≤ 1000) (hI : Inv m own P F (.slc true [])) (hC : ∀ u, IsF F u → Clo m own F own.rows.length u) (hA : ∀ j, j < own.rows.length → -1000 ≤ ci own j 8 ∧ ci own j 8 ≤ 1000)
    (ho : own.rows.length < 1000) (hn : ∀ j, j < own.rows.length → (own.rows.getD j default).cells.getD 5 default = nN) (hi : i < ch.rows.length) (hv : v ≤ m) (hf : IsF F v) :
    ∃ v' : Nat, v' ≤ m ∧ IsF F v' ∧ gAll ts 7 (.row [.int (2 : Nat), .int m, ch, own, on, l, ln, .int i, bank k m v, Bn]) = gAll ts 7 (.row [.int (6 : Nat), .int m, ch, own, on, l, ln, .int i, .int v', .int 0, bank k m v', Bn]) := by
  rw [g_eq lt (T := t7) (t := t7p2) rfl rfl]
  generalize hV : atV ts [.int m, ch, own, on, l, ln, .int i, bank k m v, Bn] = V
  have htl : finT ts 7 V (tl (.var 7)) = gAll ts 7 (.row [.int (6 : Nat), .int m, ch, own, on, l, ln, .int i, .int v, .int 0, bank k m v, Bn]) := by rw [← hV]; exact tl_eq (k := k) (k' := k) (M := m) (v := v) (v' := v) rfl rfl
  have h6 : (evalD V (.var 6)).toInt = i := by rw [← hV]; rfl
  rw [tp_eq]
  unfold tp
  rw [fT (lss_t (y := ch.rows.length) h6 (by rw [← hV]; rfl) (by omega))]
  by_cases h0 : own.rows.length = 0
  · rw [fF (lss_f (x := 0) (y := own.rows.length) rfl (by rw [← hV]; rfl) (by omega))]
    exact ⟨v, hv, hf, htl⟩
  rw [fT (lss_t (x := 0) (y := own.rows.length) rfl (by rw [← hV]; rfl) (by omega)), fF (lss_f (y := 0) h6 rfl (by omega))]
  obtain ⟨j, hj, ej⟩ := pick (x := ci ch i 0) (n := own.rows.length) (by omega) ho
  have hjE : evalD V jE = .int j := by rw [← hV]; exact congrArg D.int ej
  have hjI : (evalD V jE).toInt = j := by rw [hjE]; rfl
  have hcell : ∀ c, evalD V (.cell (.var 2) jE c) = (own.rows.getD j default).cells.getD c default := by
    intro c
    show (((evalD V (.var 2)).rows.getD (evalD V jE).toInt.toNat default).cells.getD c default) = _
    rw [hjI, ← hV]
    rfl
  have hlen : (evalD V (.lenL (.var 2))).toInt = own.rows.length := by rw [← hV]; rfl
  have hs : evalD V (.cell (.var 2) jE 5) = nN := (hcell 5).trans (hn j hj)
  have hes : evalB V (.eqS (.cell (.var 2) jE 5) 0 0) = false := by
    show strEq (evalD V (.cell (.var 2) jE 5)).toStr.data.toList.length (packL (evalD V (.cell (.var 2) jE 5)).toStr.data.toList) 0 0 = false
    rw [hs]
    rfl
  have h4 : evalD V (a4 (.var 7) (.var 8) (.cell (.var 2) jE 5)) = .row [.int 1, .int 0] := by
    show V.fn 4 (.row [.int (0 : Nat), evalD V (.var 7), evalD V (.var 8), evalD V (.cell (.var 2) jE 5)]) = _
    rw [hs, ← hV]
    exact find_bank k m v Bn
  have hiE : (evalD V iE).toInt = 0 := sel_i h4 rfl
  have h7 : evalD V (.var 7) = bank k m v := by rw [← hV]; rfl
  have hvE : evalD V vE = .int v := by
    show (((evalD V (.var 7)).rows.getD (evalD V iE).toInt.toNat default).cells.getD 2 default) = _
    rw [hiE, h7]
    rfl
  have hvI : (evalD V vE).toInt = v := by rw [hvE]; rfl
  have hLE : (evalD V (.cell (.var 7) iE 1)).toInt = m := by
    show (((evalD V (.var 7)).rows.getD (evalD V iE).toInt.toNat default).cells.getD 1 default).toInt = _
    rw [hiE, h7]
    rfl
  have hci : ∀ c, (evalD V (.cell (.var 2) jE c)).toInt = ci own j c := fun c => congrArg D.toInt (hcell c)
  have h7l : (evalD V (.lenL (.var 7))).toInt = 1 := by
    show ((evalD V (.var 7)).rows.length : Int) = 1
    rw [h7]
    rfl
  have hAj := hA j hj
  have hsub0 : (evalD V (.arith .sub .i64 (.c 0) vE)).toInt = -v := by
    rw [ev_sub (by rw [hvI]; show (_ : Int) ≤ 0 - v; omega) (by rw [hvI]; show (0 : Int) - v < _; omega), hvI]
    show (0 : Int) - v = _
    omega
  have hsubL : (evalD V (.arith .sub .i64 (.cell (.var 7) iE 1) vE)).toInt = m - v := by
    rw [ev_sub (by rw [hvI, hLE]; omega) (by rw [hvI, hLE]; omega), hvI, hLE]
    rfl
  have hadd : evalD V (.arith .add .i64 vE (.cell (.var 2) jE 8)) = .int (v + ci own j 8) := by
    rw [ev_add (by rw [hvI, hci]; omega) (by rw [hvI, hci]; omega), hvI, hci]
  rw [fF (lss_f (y := 0) hjI rfl (by omega)), fT (lss_t hjI hlen (by omega)), fF hes, fT (eql_t (sel_i h4 rfl) rfl), fF (lss_f (y := 0) hiE rfl (by decide)), fT (lss_t hiE h7l (by decide))]
  by_cases q1 : (v : Int) < ci own j 6
  · rw [fT (lss_t hvI (hci 6) q1)]
    exact ⟨v, hv, hf, htl⟩
  rw [fF (lss_f hvI (hci 6) q1)]
  by_cases q2 : ci own j 7 < v
  · rw [fT (lss_t (hci 7) hvI q2)]
    exact ⟨v, hv, hf, htl⟩
  rw [fF (lss_f (hci 7) hvI q2)]
  by_cases q3 : ci own j 8 < -v
  · rw [fT (lss_t (hci 8) hsub0 q3)]
    exact ⟨v, hv, hf, htl⟩
  rw [fF (lss_f (hci 8) hsub0 q3)]
  by_cases q4 : (m : Int) - v < ci own j 8
  · rw [fT (lss_t hsubL (hci 8) q4)]
    exact ⟨v, hv, hf, htl⟩
  rw [fF (lss_f hsubL (hci 8) q4)]
  have ha : Alw m own j v := ⟨by omega, by omega, by omega, by omega⟩
  have hfw := hC v hf j hj ha
  obtain ⟨w, hw⟩ : ∃ w : Nat, (w : Int) = v + ci own j 8 := ⟨((v : Int) + ci own j 8).toNat, by omega⟩
  rw [← hw] at hfw hadd
  refine ⟨w, by omega, hfw, ?_⟩
  have hup : evalD V (.upd (.var 7) iE 2 (.arith .add .i64 vE (.cell (.var 2) jE 8))) = bank k m w := by
    show D.slc (evalD V (.var 7)).isNil ((evalD V (.var 7)).rows.modify (evalD V iE).toInt.toNat fun r => .row (r.cells.set 2 (evalD V (.arith .add .i64 vE (.cell (.var 2) jE 8))))) = _
    rw [hiE, h7, hadd]
    rfl
  rw [← hV] at hup ⊢
  exact tl_eq (k := k) (M := m) (v := v) rfl hup
end
end Go.CH
namespace Go.CH
open Go.AE
/-! COUNTERHOLDS: the law's second loop -/
abbrev s2 : SE := .app 2 (.rcons (.c 0) (.rcons (.var 0) (.rcons (.var 1) (.rcons (.var 2) .rnil))))
abbrev xk : SE := .cell (.var 3) (.var 5) 0
abbrev s6 : SE := .app 6 (.rcons (.c 0) (.rcons (.var 6) (.rcons (.var 9) (.rcons (.var 8) (.rcons (.snoc .emptyL (.rcons (.c 0) .rnil)) (.rcons (.bc false) .rnil))))))
abbrev pE : SE := .cell (.var 6) (.var 7) 0
abbrev s4 : SE := .app 4 (.rcons (.c 0) (.rcons (.var 11) (.rcons (.var 10) (.rcons (.cell (.var 1) pE 5) .rnil))))
abbrev uE : SE := .cell (.var 11) (.sel s4 1) 2
abbrev t4' : SE := .app 4 (.rcons (.c 0) (.rcons (.var 11) (.rcons (.var 10) (.rcons (.strc 1 110) .rnil))))
section
variable [While]
theorem sel_d {V : Val} {a : SE} {r : List D} {j : Nat} (h : evalD V a = .row r) : evalD V (.sel a j) = r.getD j default := by
  show (evalD V a).cells.getD j default = _
  rw [h]
  rfl
/-- the law's fourth place, behind the last value -/
theorem p4_end {m : Int} {own on l ln B Bn le : D} {b : Bool} {k : Nat} (hk : ¬ k < l.rows.length) : gAll ts 7 (.row [.int (4 : Nat), .int m, own, on, l, ln, .int k, .bool b, le, Bn, B]) = .row [.int 1, .bool true] := by
  rw [g_eq lt (T := t7) (t := t7p4) rfl rfl]
  generalize hV : atV ts [.int m, own, on, l, ln, .int k, .bool b, le, Bn, B] = V
  unfold t7p4
  have h0 : evalD V (.app 0 (.rcons (.c 0) .rnil)) = .row [.int 1] := by rw [← hV]; exact known_eq
  rw [fF (lss_f (x := k) (y := l.rows.length) (by rw [← hV]; rfl) (by rw [← hV]; rfl) (by omega)), fT (eql_t (x := 1) (sel_i h0 rfl) rfl)]
  rfl
/-- one value: to its path -/
theorem p4_go {m : Nat} {own on l ln Bn P F : D} {k w : Nat} {v : Int} {c : Bool} (hm : 1 ≤ m ∧ m ≤ 1000) (hI : Inv m own P F (.slc true [])) (h2 : gAll ts 2 (.row [.int (0 : Nat), .int m, own, on]) = .row [.int 1, P, .bool false, F, .bool false, .int 0])
    (hk : k < l.rows.length) (hw : cd l k = .int w) (hwm : w ≤ m) (hf : IsF F w) :
    gAll ts 7 (.row [.int (4 : Nat), .int m, own, on, l, ln, .int k, .bool true, .int 1, Bn, bank c m v]) = gAll ts 7 (.row [.int (5 : Nat), .int m, own, on, l, ln, .int k, cd P w, .int (0 : Nat), .bool true, .int 1, Bn, bank c m 0]) := by
  rw [g_eq lt (T := t7) (t := t7p4) rfl rfl]
  generalize hV : atV ts [.int m, own, on, l, ln, .int k, .bool true, .int 1, Bn, bank c m v] = V
  unfold t7p4
  have e2 : evalD V s2 = .row [.int 1, P, .bool false, F, .bool false, .int 0] := by rw [← hV]; exact h2
  have e6 : evalD V s6 = .row [.int 1, .int 0, bank c m 0] := by rw [← hV]; exact put_eq nN (.int v) m c (.bool false) Bn (by omega)
  have hx : evalD V xk = .int w := by rw [← hV]; exact hw
  have hxI : (evalD V xk).toInt = w := by rw [hx]; rfl
  have e23 : evalD V (.sel s2 3) = F := sel_d e2
  have e21 : evalD V (.sel s2 1) = P := sel_d e2
  have h5 : (evalD V (.var 5)).toInt = k := by rw [← hV]; rfl
  have hcf : evalB V (.cell (.sel s2 3) xk 0) = true := by
    show (((evalD V (.sel s2 3)).rows.getD (evalD V xk).toInt.toNat default).cells.getD 0 default).toBool = true
    rw [e23, hxI]
    exact hf
  rw [fT (lss_t (y := l.rows.length) h5 (by rw [← hV]; rfl) (by omega)), fF (lss_f (y := 0) h5 rfl (by omega)), fT (eql_t (x := 1) (sel_i e2 rfl) rfl), fT (eql_t (x := 0) (sel_i e2 rfl) rfl)]
  rw [fF (lss_f (y := 0) hxI rfl (by omega)), fF (lss_f (x := m) (by rw [← hV]; rfl) hxI (by omega))]
  rw [fT (lss_t (y := F.rows.length) hxI (by show ((evalD V (.sel s2 3)).rows.length : Int) = _; rw [e23]) (by rw [hI.lenF]; omega)), fT hcf]
  rw [fT (lss_t (y := P.rows.length) hxI (by show ((evalD V (.sel s2 1)).rows.length : Int) = _; rw [e21]) (by rw [hI.lenP]; omega))]
  rw [fT (eql_t (x := 1) (by rw [← hV]; rfl) (by rw [← hV]; rfl)), fT (eql_t (x := 1) (sel_i e6 rfl) rfl), fT (eql_t (x := 0) (sel_i e6 rfl) rfl), finT_leaf, fin_next]
  have hc : evalD V (.cell (.sel s2 1) xk 0) = cd P w := by
    show ((evalD V (.sel s2 1)).rows.getD (evalD V xk).toInt.toNat default).cells.getD 0 default = _
    rw [e21, hxI]
    rfl
  have e62 : evalD V (.sel s6 2) = bank c m 0 := sel_d e6
  simp only [List.map_cons, List.map_nil]
  rw [hc, e62, ← hV]
  rfl
/-- a step of a path -/
theorem p5_step {m : Nat} {own on l ln Bn pt k : D} {i j a : Nat} {c : Bool} (hm : 1 ≤ m ∧ m ≤ 1000) (hi : i < pt.rows.length) (hp : (pt.rows.getD i default) = .row [.int j]) (hj : j < own.rows.length) (hn : (own.rows.getD j default).cells.getD 5 default = nN)
    (ha : Alw m own j a) (ham : a ≤ m) : gAll ts 7 (.row [.int (5 : Nat), .int m, own, on, l, ln, k, pt, .int i, .bool true, .int 1, Bn, bank c m a]) = gAll ts 7 (.row [.int (5 : Nat), .int m, own, on, l, ln, k, pt, .int (IntKind.wrap .i64 ((i : Int) + 1)), .bool true, .int 1, Bn, bank c m (a + ci own j 8)]) := by
  rw [g_eq lt (T := t7) (t := t7p5) rfl rfl]
  generalize hV : atV ts [.int m, own, on, l, ln, k, pt, .int i, .bool true, .int 1, Bn, bank c m a] = V
  unfold t7p5
  have h7 : (evalD V (.var 7)).toInt = i := by rw [← hV]; rfl
  have hpE : (evalD V pE).toInt = j := by
    rw [← hV]
    show (((pt.rows.getD i default)).cells.getD 0 default).toInt = j
    rw [hp]
    rfl
  have hcell : ∀ c, evalD V (.cell (.var 1) pE c) = (own.rows.getD j default).cells.getD c default := by
    intro c
    show (((evalD V (.var 1)).rows.getD (evalD V pE).toInt.toNat default).cells.getD c default) = _
    rw [hpE, ← hV]
    rfl
  have hci : ∀ c, (evalD V (.cell (.var 1) pE c)).toInt = ci own j c := fun c => congrArg D.toInt (hcell c)
  have hs : evalD V (.cell (.var 1) pE 5) = nN := (hcell 5).trans hn
  have hes : evalB V (.eqS (.cell (.var 1) pE 5) 0 0) = false := by
    show strEq (evalD V (.cell (.var 1) pE 5)).toStr.data.toList.length (packL (evalD V (.cell (.var 1) pE 5)).toStr.data.toList) 0 0 = false
    rw [hs]
    rfl
  have h4 : evalD V s4 = .row [.int 1, .int 0] := by
    show V.fn 4 (.row [.int (0 : Nat), evalD V (.var 11), evalD V (.var 10), evalD V (.cell (.var 1) pE 5)]) = _
    rw [hs, ← hV]
    exact find_bank c m a Bn
  have h41 : (evalD V (.sel s4 1)).toInt = 0 := sel_i h4 rfl
  have hB : evalD V (.var 11) = bank c m a := by rw [← hV]; rfl
  have hu : (evalD V uE).toInt = a := by
    show (((evalD V (.var 11)).rows.getD (evalD V (.sel s4 1)).toInt.toNat default).cells.getD 2 default).toInt = _
    rw [h41, hB]
    rfl
  have hLE : (evalD V (.cell (.var 11) (.sel s4 1) 1)).toInt = m := by
    show (((evalD V (.var 11)).rows.getD (evalD V (.sel s4 1)).toInt.toNat default).cells.getD 1 default).toInt = _
    rw [h41, hB]
    rfl
  obtain ⟨a1, a2, a3, a4⟩ := ha
  have hsub0 : (evalD V (.arith .sub .i64 (.c 0) uE)).toInt = -a := by
    rw [ev_sub (by rw [hu]; show (_ : Int) ≤ 0 - a; omega) (by rw [hu]; show (0 : Int) - a < _; omega), hu]
    show (0 : Int) - a = _
    omega
  have hsubL : (evalD V (.arith .sub .i64 (.cell (.var 11) (.sel s4 1) 1) uE)).toInt = m - a := by
    rw [ev_sub (by rw [hu, hLE]; omega) (by rw [hu, hLE]; omega), hu, hLE]
    rfl
  have hadd : evalD V (.arith .add .i64 uE (.cell (.var 1) pE 8)) = .int (a + ci own j 8) := by
    rw [ev_add (by rw [hu, hci]; omega) (by rw [hu, hci]; omega), hu, hci]
  have h9 : (evalD V (.var 9)).toInt = 1 := by rw [← hV]; rfl
  have hlB : (evalD V (.lenL (.var 11))).toInt = 1 := by
    show ((evalD V (.var 11)).rows.length : Int) = 1
    rw [hB]
    rfl
  rw [fT (lss_t (y := pt.rows.length) h7 (by rw [← hV]; rfl) (by omega)), fF (lss_f (y := 0) h7 rfl (by omega)), fF (lss_f (y := 0) hpE rfl (by omega)), fT (lss_t (y := own.rows.length) hpE (by rw [← hV]; rfl) (by omega))]
  rw [fT (show evalB V (.var 8) = true by rw [← hV]; rfl), fF hes, fT (eql_t hlB h9), fT (eql_t (x := 1) (sel_i h4 rfl) rfl), fF (lss_f (y := 0) h41 rfl (by decide)), fT (lss_t h41 h9 (by decide)), fT (lss_t h41 hlB (by decide))]
  rw [fF (lss_f hu (hci 6) (by omega)), fF (lss_f (hci 7) hu (by omega)), fF (lss_f (hci 8) hsub0 (by omega)), fF (lss_f hsubL (hci 8) (by omega)), finT_leaf, fin_next]
  have hup : evalD V (.upd (.var 11) (.sel s4 1) 2 (.arith .add .i64 uE (.cell (.var 1) pE 8))) = bank c m (a + ci own j 8) := by
    show D.slc (evalD V (.var 11)).isNil ((evalD V (.var 11)).rows.modify (evalD V (.sel s4 1)).toInt.toNat fun r => .row (r.cells.set 2 (evalD V (.arith .add .i64 uE (.cell (.var 1) pE 8))))) = _
    rw [h41, hB, hadd]
    rfl
  simp only [List.map_cons, List.map_nil]
  rw [hup, ← hV]
  rfl
/-- the end of a path -/
theorem p5_end {m : Nat} {own on l ln Bn pt : D} {i k : Nat} {a : Int} {c : Bool} (hi : ¬ i < pt.rows.length) (hk : k < l.rows.length) (hw : cd l k = .int a) :
    gAll ts 7 (.row [.int (5 : Nat), .int m, own, on, l, ln, .int k, pt, .int i, .bool true, .int 1, Bn, bank c m a]) = gAll ts 7 (.row [.int (4 : Nat), .int m, own, on, l, ln, .int (IntKind.wrap .i64 ((k : Int) + 1)), .bool true, .int 1, Bn, bank c m a]) := by
  rw [g_eq lt (T := t7) (t := t7p5) rfl rfl]
  generalize hV : atV ts [.int m, own, on, l, ln, .int k, pt, .int i, .bool true, .int 1, Bn, bank c m a] = V
  unfold t7p5
  have h4 : evalD V t4' = .row [.int 1, .int 0] := by rw [← hV]; exact find_bank c m a Bn
  have h41 : (evalD V (.sel t4' 1)).toInt = 0 := sel_i h4 rfl
  have hB : evalD V (.var 11) = bank c m a := by rw [← hV]; rfl
  have h9 : (evalD V (.var 9)).toInt = 1 := by rw [← hV]; rfl
  have h5 : (evalD V (.var 5)).toInt = k := by rw [← hV]; rfl
  have hlB : (evalD V (.lenL (.var 11))).toInt = 1 := by
    show ((evalD V (.var 11)).rows.length : Int) = 1
    rw [hB]
    rfl
  have hu : (evalD V (.cell (.var 11) (.sel t4' 1) 2)).toInt = a := by
    show (((evalD V (.var 11)).rows.getD (evalD V (.sel t4' 1)).toInt.toNat default).cells.getD 2 default).toInt = _
    rw [h41, hB]
    rfl
  rw [fF (lss_f (x := i) (y := pt.rows.length) (by rw [← hV]; rfl) (by rw [← hV]; rfl) (by omega)), fT (show evalB V (.var 8) = true by rw [← hV]; rfl), fT (eql_t hlB h9), fT (eql_t (x := 1) (sel_i h4 rfl) rfl), fF (lss_f (y := 0) h41 rfl (by decide)), fT (lss_t h41 h9 (by decide)), fT (lss_t h41 hlB (by decide))]
  rw [fF (lss_f (y := 0) h5 rfl (by omega)), fT (lss_t (y := l.rows.length) h5 (by rw [← hV]; rfl) (by omega)), fT (eql_t hu (by rw [← hV]; exact congrArg D.toInt hw)), finT_leaf, fin_next, ← hV]
  rfl
theorem p5_loop {m : Nat} {own on l ln Bn pt : D} {k w : Nat} {c : Bool} (hm : 1 ≤ m ∧ m ≤ 1000) (hpl : pt.rows.length < 1048576) (hn : ∀ j, j < own.rows.length → (own.rows.getD j default).cells.getD 5 default = nN) (hk : k < l.rows.length) (hw : cd l k = .int w) :
    ∀ (n i a : Nat), i + n = pt.rows.length → a ≤ m → Leads m own (pt.rows.drop i) a w →
    gAll ts 7 (.row [.int (5 : Nat), .int m, own, on, l, ln, .int k, pt, .int i, .bool true, .int 1, Bn, bank c m a]) = gAll ts 7 (.row [.int (4 : Nat), .int m, own, on, l, ln, .int (IntKind.wrap .i64 ((k : Int) + 1)), .bool true, .int 1, Bn, bank c m w])
  | 0, i, a, hi, ha, h => by
    rw [List.drop_eq_nil_of_le (by omega)] at h
    have h : (a : Int) = w := h
    rw [h]
    exact p5_end (by omega) hk hw
  | n + 1, i, a, hi, ha, h => by
    have hlt : i < pt.rows.length := by omega
    rw [List.drop_eq_getElem_cons hlt] at h
    obtain ⟨j, e, hj, hal, h'⟩ := h
    have hg : pt.rows.getD i default = .row [.int j] := by
      show pt.rows[i]?.getD default = _
      rw [List.getElem?_eq_getElem hlt, Option.getD_some, e]
    obtain ⟨b, hb⟩ : ∃ b : Nat, (b : Int) = a + ci own j 8 := ⟨((a : Int) + ci own j 8).toNat, by have := hal.2.2.1; omega⟩
    rw [p5_step hm hlt hg hj (hn j hj) hal ha, wrap_i64 (by omega) (by omega), show (i : Int) + 1 = ((i + 1 : Nat) : Int) by omega, ← hb]
    rw [← hb] at h'
    exact p5_loop hm hpl hn hk hw n (i + 1) b (by omega) (by have := hal.2.2.2; omega) h'
/-- the second loop answers true -/
theorem p4_loop {m : Nat} {own on l ln Bn P F : D} {c : Bool} (hm : 1 ≤ m ∧ m ≤ 1000) (hI : Inv m own P F (.slc true [])) (h2 : gAll ts 2 (.row [.int (0 : Nat), .int m, own, on]) = .row [.int 1, P, .bool false, F, .bool false, .int 0])
    (hn : ∀ j, j < own.rows.length → (own.rows.getD j default).cells.getD 5 default = nN) (hl : ∀ x ∈ l.rows, ∃ w : Nat, w ≤ m ∧ IsF F w ∧ x = .row [.int w]) (hll : l.rows.length < 1048576) :
    ∀ (n k : Nat) (v : Int), k + n = l.rows.length → gAll ts 7 (.row [.int (4 : Nat), .int m, own, on, l, ln, .int k, .bool true, .int 1, Bn, bank c m v]) = .row [.int 1, .bool true]
  | 0, k, v, hk => p4_end (by omega)
  | n + 1, k, v, hk => by
    have hlt : k < l.rows.length := by omega
    obtain ⟨w, h1, hf, e⟩ := hl _ (List.getElem_mem hlt)
    have hw : cd l k = .int w := by
      show (l.rows[k]?.getD default).cells.getD 0 default = _
      rw [List.getElem?_eq_getElem hlt, Option.getD_some, e]
      rfl
    obtain ⟨hp, hpl⟩ := hI.path w h1 hf
    have hcl := cnt_le (F := F)
    have hFl := hI.lenF
    rw [p4_go hm hI h2 hlt hw h1 hf]
    have := p5_loop (on := on) (ln := ln) (Bn := Bn) (c := c) hm (pt := cd P w) (by omega) hn hlt hw (cd P w).rows.length 0 0 (by omega) (by omega) hp
    refine Eq.trans this ?_
    rw [wrap_i64 (by omega) (by omega), show (k : Int) + 1 = ((k + 1 : Nat) : Int) by omega]
    exact p4_loop hm hI h2 hn hl hll n (k + 1) w (by omega)
end
end Go.CH
namespace Go.CH
open Go.AE
/-! COUNTERHOLDS: the law answers true -/
section
variable [While]
theorem p2_end {m v : Int} {ch own on l ln Bn : D} {i : Nat} {c : Bool} (hi : ¬ i < ch.rows.length) : gAll ts 7 (.row [.int (2 : Nat), .int m, ch, own, on, l, ln, .int i, bank c m v, Bn]) = gAll ts 7 (.row [.int (4 : Nat), .int m, own, on, l, ln, .int (0 : Nat), .bool true, .int 1, Bn, bank c m v]) := by
  rw [g_eq lt (T := t7) (t := t7p2) rfl rfl]
  generalize hV : atV ts [.int m, ch, own, on, l, ln, .int i, bank c m v, Bn] = V
  rw [tp_eq]
  unfold tp
  rw [fF (lss_f (x := i) (y := ch.rows.length) (by rw [← hV]; rfl) (by rw [← hV]; rfl) (by omega)), finT_leaf, fin_next, ← hV]
  rfl
theorem p2_loop {m : Nat} {own on l ln Bn P F ch : D} {c : Bool} (hm : 1 ≤ m ∧ m ≤ 1000) (hI : Inv m own P F (.slc true [])) (h2 : gAll ts 2 (.row [.int (0 : Nat), .int m, own, on]) = .row [.int 1, P, .bool false, F, .bool false, .int 0])
    (hC : ∀ u, IsF F u → Clo m own F own.rows.length u) (hA : ∀ j, j < own.rows.length → -1000 ≤ ci own j 8 ∧ ci own j 8 ≤ 1000) (ho : own.rows.length < 1000)
    (hn : ∀ j, j < own.rows.length → (own.rows.getD j default).cells.getD 5 default = nN) (hl : ∀ x, x ∈ l.rows ↔ ∃ w : Nat, w ≤ m ∧ IsF F w ∧ x = .row [.int w]) (hll : l.rows.length < 1048576) (hch : ch.rows.length < 1000) :
    ∀ (n i v : Nat), i + n = ch.rows.length → v ≤ m → IsF F v → gAll ts 7 (.row [.int (2 : Nat), .int m, ch, own, on, l, ln, .int i, bank c m v, Bn]) = .row [.int 1, .bool true]
  | 0, i, v, hi, hv, hf => by
    rw [p2_end (by omega)]
    exact p4_loop hm hI h2 hn (fun x hx => (hl x).1 hx) hll l.rows.length 0 v (by omega)
  | n + 1, i, v, hi, hv, hf => by
    obtain ⟨v', hv', hf', e⟩ := turn (S := own) (l := l) (ln := ln) (on := on) (Bn := Bn) (k := c) hm hI hC hA ho hn (show i < ch.rows.length by omega) hv hf
    rw [e, e7_6]
    have hin : D.row [.int v'] ∈ l.rows := (hl _).2 ⟨v', hv', hf', rfl⟩
    have := found_loop (L := .int m) (ch := ch) (own := own) (on := on) (l := l) (ln := ln) (B := bank c m v') (Bn := Bn) (i := i) (v := v') hll hin l.rows.length 0 false (by omega) (.inr hin)
    refine Eq.trans this ?_
    rw [wrap_i64 (by omega) (by omega), show (i : Int) + 1 = ((i + 1 : Nat) : Int) by omega]
    exact p2_loop hm hI h2 hC hA ho hn hl hll hch n (i + 1) v' (by omega) hv' hf'
/-- a step with the name -/
def named (S : D) (i : Nat) : D := .row [(S.rows.getD i default).cells.getD 0 default, (S.rows.getD i default).cells.getD 1 default, (S.rows.getD i default).cells.getD 2 default, (S.rows.getD i default).cells.getD 3 default, (S.rows.getD i default).cells.getD 4 default, nN, (S.rows.getD i default).cells.getD 6 default, (S.rows.getD i default).cells.getD 7 default, (S.rows.getD i default).cells.getD 8 default]
theorem p1_go {m S ch own on : D} {i : Nat} (hi : i < S.rows.length) (ho : own.rows.length < 1000) : gAll ts 7 (.row [.int (1 : Nat), m, S, ch, own, on, .int i]) = gAll ts 7 (.row [.int (1 : Nat), m, S, ch, ad own (named S i), .bool false, .int (IntKind.wrap .i64 ((i : Int) + 1))]) := by
  rw [g_eq lt (T := t7) (t := t7p1) rfl rfl]
  generalize hV : atV ts [m, S, ch, own, on, .int i] = V
  unfold t7p1
  rw [fT (lss_t (x := i) (y := S.rows.length) (by rw [← hV]; rfl) (by rw [← hV]; rfl) (by omega)), fF (lss_f (x := i) (y := 0) (by rw [← hV]; rfl) rfl (by omega)), fT (lss_t (x := own.rows.length) (y := 1048576) (by rw [← hV]; rfl) rfl (by omega)), finT_leaf, fin_next, ← hV]
  rfl
abbrev s3 : SE := .app 3 (.rcons (.c 0) (.rcons (.var 0) (.rcons (.var 3) (.rcons (.var 4) .rnil))))
abbrev s5 : SE := .app 5 (.rcons (.c 0) (.rcons (.snoc .emptyL (.rcons (.strc 1 110) (.rcons (.var 0) .rnil))) (.rcons (.bc false) .rnil)))
theorem p1_end {m : Int} {S ch own on : D} {i : Nat} (hi : ¬ i < S.rows.length) (ho : own.rows.length < 1000) (hch : ch.rows.length < 1000) (hn : ∀ j, j < own.rows.length → (own.rows.getD j default).cells.getD 5 default = nN) :
    gAll ts 7 (.row [.int (1 : Nat), .int m, S, ch, own, on, .int i]) = .row [.int 1, .bool true] := by
  rw [g_eq lt (T := t7) (t := t7p1) rfl rfl]
  generalize hV : atV ts [.int m, S, ch, own, on, .int i] = V
  unfold t7p1
  have h0 : evalD V (.app 0 (.rcons (.c 0) .rnil)) = .row [.int 1] := by rw [← hV]; exact known_eq
  rw [fF (lss_f (x := i) (y := S.rows.length) (by rw [← hV]; rfl) (by rw [← hV]; rfl) (by omega))]
  rcases reach_eq own on m ho with ⟨O, oo, h⟩ | ⟨k, P, F, O, oo, rfl, h1, h2, h3, h4, h5, h6, h7, h8, h9⟩
  · have e3 : evalD V s3 = .row [.int 1, O, oo, .int 2] := by rw [← hV]; exact h
    have : evalB V (.eql (.sel s3 3) (.c 0)) = false := by
      cases q : evalB V (.eql (.sel s3 3) (.c 0))
      · rfl
      · have := eql_iff.1 q
        rw [sel_i (x := 2) e3 rfl] at this
        cases this
    rw [fT (eql_t (x := 1) (sel_i e3 rfl) rfl), fF this, fT (eql_t (x := 2) (sel_i e3 rfl) rfl), fT (eql_t (x := 1) (sel_i h0 rfl) rfl)]
    rfl
  · have e3 : evalD V s3 = .row [.int 1, O, oo, .int 0] := by rw [← hV]; exact h7
    have e5 : evalD V s5 = .row [.int 2, .slc false [.row [nN, .int k, .int 0]], .bool false] := by rw [← hV]; exact new_eq k (.bool false) (by omega) (by omega)
    have : evalB V (.eql (.sel s5 0) (.c 1)) = false := by
      cases q : evalB V (.eql (.sel s5 0) (.c 1))
      · rfl
      · have := eql_iff.1 q
        rw [sel_i (x := 2) e5 rfl] at this
        cases this
    rw [fT (eql_t (x := 1) (sel_i e3 rfl) rfl), fT (eql_t (x := 0) (sel_i e3 rfl) rfl), fF this, fT (eql_t (x := 2) (sel_i e5 rfl) rfl), finT_leaf, fin_next]
    have a1 : evalD V (.sel s3 1) = O := sel_d e3
    have a2 : evalD V (.sel s3 2) = oo := sel_d e3
    have a3 : evalD V (.sel s5 1) = bank false k 0 := sel_d e5
    have a4 : evalD V (.sel s5 2) = .bool false := sel_d e5
    simp only [List.map_cons, List.map_nil]
    rw [a1, a2, a3, a4, ← hV]
    exact p2_loop ⟨h1, h2⟩ h5 h4 h6 h3 ho hn h8 (by omega) hch ch.rows.length 0 0 (by omega) (by omega) h5.f0
theorem p1_loop {m : Int} {S ch : D} (hS : S.rows.length ≤ 12) (hch : ch.rows.length < 1000) : ∀ (n i : Nat) (own on : D), i + n = S.rows.length → own.rows.length = i → (∀ j, j < own.rows.length → (own.rows.getD j default).cells.getD 5 default = nN) →
    gAll ts 7 (.row [.int (1 : Nat), .int m, S, ch, own, on, .int i]) = .row [.int 1, .bool true]
  | 0, i, own, on, hi, ho, hn => p1_end (by omega) (by omega) hch hn
  | n + 1, i, own, on, hi, ho, hn => by
    rw [p1_go (by omega) (by omega), wrap_i64 (by omega) (by omega), show (i : Int) + 1 = ((i + 1 : Nat) : Int) by omega]
    have hlen : (ad own (named S i)).rows.length = i + 1 := by
      show (own.rows ++ [_]).length = _
      simp [ho]
    refine p1_loop hS hch n (i + 1) _ _ (by omega) hlen fun j hj => ?_
    rw [hlen] at hj
    show ((own.rows ++ [named S i])[j]?.getD default).cells.getD 5 default = nN
    rcases Nat.lt_or_ge j i with q | q
    · rw [List.getElem?_append_left (by omega)]
      exact hn j (by omega)
    · have : j = own.rows.length := by omega
      subst this
      simp
      rfl
/-- CounterHolds in plain data -/
theorem holds (xs : List D) (m : Int) (hx : xs.getD 0 default = .int m) : gAll ts 7 (.row (.int (0 : Nat) :: xs)) = .row [.int 1, .bool true] := by
  rw [g_eq lt (T := t7) (t := t7p0) rfl rfl]
  generalize hV : atV ts xs = V
  unfold t7p0
  have v0 : evalD V (.var 0) = .int m := by rw [← hV]; exact hx
  have h0 : evalD V (.app 0 (.rcons (.c 0) .rnil)) = .row [.int 1] := by rw [← hV]; exact known_eq
  have hk : finT ts 7 V (.split (.eql (.sel (.app 0 (.rcons (.c 0) .rnil)) 0) (.c 1)) (.leaf (.done 0 [(.bc true)])) (.leaf .stuck)) = .row [.int 1, .bool true] := by
    rw [fT (eql_t (x := 1) (sel_i h0 rfl) rfl)]
    rfl
  have hm : (evalD V (.var 0)).toInt = m := by rw [v0]; rfl
  by_cases q1 : m < 1
  · rw [fT (lss_t (y := 1) hm rfl q1)]
    exact hk
  rw [fF (lss_f (y := 1) hm rfl q1)]
  by_cases q2 : 100 < m
  · rw [fT (lss_t (x := 100) rfl hm q2)]
    exact hk
  rw [fF (lss_f (x := 100) rfl hm q2)]
  by_cases q3 : (12 : Int) < (evalD V (.var 1)).rows.length
  · rw [fT (lss_t (x := 12) (y := ((evalD V (.var 1)).rows.length : Nat)) rfl rfl q3)]
    exact hk
  rw [fF (lss_f (x := 12) (y := ((evalD V (.var 1)).rows.length : Nat)) rfl rfl q3)]
  by_cases q4 : (60 : Int) < (evalD V (.var 2)).rows.length
  · rw [fT (lss_t (x := 60) (y := ((evalD V (.var 2)).rows.length : Nat)) rfl rfl q4)]
    exact hk
  rw [fF (lss_f (x := 60) (y := ((evalD V (.var 2)).rows.length : Nat)) rfl rfl q4), finT_leaf, fin_next]
  simp only [List.map_cons, List.map_nil]
  rw [v0]
  exact p1_loop (m := m) (S := evalD V (.var 1)) (ch := evalD V (.var 2)) (by omega) (by omega) (evalD V (.var 1)).rows.length 0 (.slc true []) (.bool true) (by omega) rfl (fun j hj => by cases hj)
end
end Go.CH
