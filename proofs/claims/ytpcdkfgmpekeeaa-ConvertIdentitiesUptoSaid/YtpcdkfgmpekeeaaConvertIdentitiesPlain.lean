/- What is proved: what the plain functions over data say, whose trees the text before writes out: the law ConvertIdentities answers true. Conditions: those that each theorem states. -/
import Derived.Test.YtpcdkfgmpekeeaaConvertIdentitiesPlainA
set_option linter.unusedVariables false
set_option linter.unusedSectionVars false
set_option linter.unusedSimpArgs false
namespace Ci
open Go Go.AE
abbrev PK := Key × Key
abbrev K10 : List Kd := [.int .i64, .int .i64, .int .i64, .int .i64, .int .i64, .int .i64, .int .i64, .int .i64, .int .i64, .int .i64]
def CY (p : PK) : List D := [.int p.1.1, .int p.1.2.1, .int p.1.2.2.1, .int p.1.2.2.2.1, .int p.1.2.2.2.2, .int p.2.1, .int p.2.2.1, .int p.2.2.2.1, .int p.2.2.2.2.1, .int p.2.2.2.2.2]
def AL (ps : List PK) : D := .slc ps.isEmpty (ps.map fun p => .row (CY p))
def By (ps : List PK) : D := .slc false (ps.map fun p => .row (CY p ++ [.bool true]))
theorem CG {ps : List PK} : len (AL ps) = ps.length := by unfold AL len; simp [D.rows]
theorem RU {ps : List PK} : len (By ps) = ps.length := by unfold By len; simp [D.rows]
theorem AW {ps : List PK} {j c : Nat} {p : PK} (h : ps[j]? = some p) : cl (AL ps) j c = (CY p).getD c default := by
 show (((ps.map fun p => D.row (CY p))[j]?).getD default).cells.getD c default = _
 rw [List.getElem?_map, h];rfl
theorem T5 {a b : PK} {l : List D} : BU K10 (CY a ++ l) (CY b) = decide (a = b) := by
 obtain ⟨⟨a1, a2, a3, a4, a5⟩, a6, a7, a8, a9, a10⟩ := a;obtain ⟨⟨b1, b2, b3, b4, b5⟩, b6, b7, b8, b9, b10⟩ := b;simp only [K10, CY, List.cons_append, List.nil_append, BU, Ah, Bool.and_true];rw [Bool.eq_iff_iff];simp;omega
theorem Su {ps : List PK} {p : PK} : mIx K10 (By ps) (.row (CY p)) = fdG (fun i => decide (ps[i]? = some p)) ps.length 0 := by
 rw [QW, RU];refine CE fun j _ hj => ?_
 show BU K10 ((((ps.map fun p => D.row (CY p ++ [.bool true]))[j]?).getD default).cells) (CY p) = _
 have hj' : j < ps.length := by omega
 rw [List.getElem?_map, List.getElem?_eq_getElem hj'];show BU K10 (CY ps[j] ++ [.bool true]) (CY p) = _;rw [T5];simp
def Bp (ps : List PK) (p : PK) : List PK := if p ∈ ps then ps else ps ++ [p]
theorem Hg {ps : List PK} {p : PK} : (Bp ps p).length ≤ ps.length + 1 := by
 unfold Bp;split
 ·omega
 ·simp
theorem DI : ∀ {l ps : List PK}, (l.foldl Bp ps).length ≤ ps.length + l.length
 | [], ps => by simp
 | s :: l, ps => by
  have := DI (l := l) (ps := Bp ps s);have := Hg (ps := ps) (p := s);simp only [List.foldl_cons, List.length_cons];omega
section
variable [Ap]
variable {v0 S C T v0' S' C' T' : D} {w8 w9 w11 w12 : D} {b10 b13 : Bool} {i14 i15 : Int}
theorem Pb {ps : List PK} {p : PK} (hl : ps.length < 1073741824) : Hs (AL ps) (.bool ps.isEmpty) (By ps) (.int p.1.1) (.int p.1.2.1) (.int p.1.2.2.1) (.int p.1.2.2.2.1) (.int p.1.2.2.2.2) (.int p.2.1) (.int p.2.2.1) (.int p.2.2.2.1) (.int p.2.2.2.2.1) (.int p.2.2.2.2.2) = .row [.int 1, AL (Bp ps p), .bool (Bp ps p).isEmpty, By (Bp ps p)] := by
 rw [ZN];have e : D.row [(.int p.1.1), (.int p.1.2.1), (.int p.1.2.2.1), (.int p.1.2.2.2.1), (.int p.1.2.2.2.2), (.int p.2.1), (.int p.2.2.1), (.int p.2.2.2.1), (.int p.2.2.2.2.1), (.int p.2.2.2.2.2)] = .row (CY p) := rfl;rw [e, Su, CG];by_cases c : p ∈ ps
 ·obtain ⟨j, hj, hjk⟩ := List.getElem_of_mem c;have q := Iz (p := fun i => decide (ps[i]? = some p)) (k := ps.length) (i := 0) (j := j) (by omega) (by omega) (decide_eq_true (by rw [List.getElem?_eq_getElem hj, hjk]))
  have lt := E9 (p := fun i => decide (ps[i]? = some p)) (k := ps.length) (i := 0)
  have ea : Bp ps p = ps := if_pos c;rw [ifF (by omega), ea]
  have cb : ∀ i : Int, 0 ≤ i → i < ps.length → cl (By ps) i 10 = .bool true := fun i h0 h1 => by
   show (((ps.map fun p => D.row (CY p ++ [.bool true]))[i.toNat]?).getD default).cells.getD 10 default = _
   rw [List.getElem?_map, List.getElem?_eq_getElem (by omega)]
   rfl
  rw [cb _ q.1 (by omega)]
  rfl
 ·have q : fdG (fun i => decide (ps[i]? = some p)) ps.length 0 = -1 := BI fun j _ hj => decide_eq_false fun h => c (List.mem_of_getElem? h)
  have ea : Bp ps p = ps ++ [p] := if_neg c;rw [ifT (by omega), ifT (by omega), ea]
  have e1 : ad (AL ps) (.row (CY p)) = AL (ps ++ [p]) := by
   unfold AL ad;simp [D.rows]
  have e2 : ad (By ps) (.row [(.int p.1.1), (.int p.1.2.1), (.int p.1.2.2.1), (.int p.1.2.2.2.1), (.int p.1.2.2.2.2), (.int p.2.1), (.int p.2.2.1), (.int p.2.2.2.1), (.int p.2.2.2.2.1), (.int p.2.2.2.2.2), .bool true]) = By (ps ++ [p]) := by
   unfold By ad;simp [D.rows, CY]
  rw [e1, e2];simp
omit [Ap] in
theorem PW {k : Key} : ∀ s ∈ enl S C T k, s < len T := fun s h => (Jz h).1
omit [Ap] in
theorem M1 {k : Key} {r : Bool} : ∀ s ∈ prt T (enl S C T k) r, s < len T := fun s h => PW s (List.mem_filter.1 h).1
omit [Ap] in
theorem Du {k : Key} {r : Bool} : ∀ s ∈ prt T (enl S C T k) r, s < len T ∧ en S C T k s = true := fun s h => Jz (List.mem_filter.1 h).1
omit [Ap] in
theorem CK (hR : Rk S C T) {k : Key} {r : Bool} : (prt T (enl S C T k) r).length ≤ 20 := by
 have := MJ (T := T) (L := enl S C T k) (r := r);have := Hz (S := S) (C := C) (T := T) (k := k);have := hR.t1;omega
theorem K0 (hR : Rk S C T) (hR' : Rk S' C' T') {p : PK} (hk : KOk S C p.1) (hk' : KOk S' C' p.2) {r : Bool} : ∃ da db fa fb, NL (prt T (enl S C T p.1) r) da ∧ NL (prt T' (enl S' C' T' p.2) r) db ∧
  LQ v0 S C T v0' S' C' T' w8 w9 (.bool b10) w11 w12 (.bool b13) (.int i14) (.int i15) (.int p.1.1) (.int p.1.2.1) (.int p.1.2.2.1) (.int p.1.2.2.2.1) (.int p.1.2.2.2.2) (.int p.2.1) (.int p.2.2.1) (.int p.2.2.2.1) (.int p.2.2.2.2.1) (.int p.2.2.2.2.2) (.bool r) = .row [.int 1, da, .bool fa, db, .bool fb] := by
 have ht := hR.t1;have ht' := hR'.t1;have l1 := Hz (S := S) (C := C) (T := T) (k := p.1);have l2 := Hz (S := S') (C := C') (T := T') (k := p.2);obtain ⟨da, a1, a2⟩ := TG (v0 := v0) (S := S) (C := C) (T := T) (L := enl S C T p.1) (b := (enl S C T p.1).isEmpty) (r := r) PW (by omega)
 obtain ⟨db, b1, b2⟩ := TG (v0 := v0') (S := S') (C := C') (T := T') (L := enl S' C' T' p.2) (b := (enl S' C' T' p.2).isEmpty) (r := r) PW (by omega)
 refine ⟨da, db, (enl S C T p.1).isEmpty, (enl S' C' T' p.2).isEmpty, a1, b1, ?_⟩;rw [bZ (h0 := rfl) (h1 := rfl), Qd hR hk, Qd hR' hk'];dsimp +instances only [As, Au, Ah, Ai];rw [a2, b2];rfl
def flt (S C T S' C' T' : D) (p : PK) : Nat × Nat :=
 match lk T T' (prt T (enl S C T p.1) true) (prt T' (enl S' C' T' p.2) true) with
 | some s => (1, s)
 | none => match lk T' T (prt T' (enl S' C' T' p.2) false) (prt T (enl S C T p.1) false) with
  | some s => (2, s)
  | none => if 0 < (prt T (enl S C T p.1) false).length ∧ (prt T' (enl S' C' T' p.2) false).length = 0 then (3, 0)
   else if (cl S p.1.1 1).toBool = (cl S' p.2.1 1).toBool then (0, 0) else (4, 0)
theorem UF (hR : Rk S C T) (hR' : Rk S' C' T') {p : PK} (hk : KOk S C p.1) (hk' : KOk S' C' p.2) :
  U9 v0 S C T v0' S' C' T' w8 w9 (.bool b10) w11 w12 (.bool b13) (.int i14) (.int i15) (.int p.1.1) (.int p.1.2.1) (.int p.1.2.2.1) (.int p.1.2.2.2.1) (.int p.1.2.2.2.2) (.int p.2.1) (.int p.2.2.1) (.int p.2.2.2.1) (.int p.2.2.2.2.1) (.int p.2.2.2.2.2) = .row [.int 1, .int ((flt S C T S' C' T' p).1 : Nat), .int ((flt S C T S' C' T' p).2 : Nat)] := by
 have s1 := hk.s0;have s2 := hk.s1;have s3 := hk'.s0;have s4 := hk'.s1;obtain ⟨da, db, fa, fb, a1, a2, a3⟩ := K0 (v0 := v0) (v0' := v0') (w8 := w8) (w9 := w9) (w11 := w11) (w12 := w12) (b10 := b10) (b13 := b13) (i14 := i14) (i15 := i15) hR hR' hk hk' (r := true);obtain ⟨dc, dd, fc, fd, c1, c2, c3⟩ := K0 (v0 := v0) (v0' := v0') (w8 := w8) (w9 := w9) (w11 := w11) (w12 := w12) (b10 := b10) (b13 := b13) (i14 := i14) (i15 := i15) hR hR' hk hk' (r := false);have m1 : ∀ r, (prt T (enl S C T p.1) r).length < 1000 := fun r => by have := CK hR (k := p.1) (r := r); omega
 have m2 : ∀ r, (prt T' (enl S' C' T' p.2) r).length < 1000 := fun r => by have := CK hR' (k := p.2) (r := r); omega
 rw [fJ (h0 := rfl) (h1 := rfl), a3, c3];dsimp +instances only [As, Au, Ah, Ai];rw [ifT (by rfl), Tl M1 M1 a1 a2 (m1 _) (m2 _)]
 unfold flt;cases lk T T' (prt T (enl S C T p.1) true) (prt T' (enl S' C' T' p.2) true) with
 | some s => rfl
 | none =>
  unfold lkR;dsimp +instances only [As, Au, Ah, Ai];rw [ifT (by rfl), cond_false, ifT (by rfl), Tl M1 M1 c2 c1 (m2 _) (m1 _)]
  cases lk T' T (prt T' (enl S' C' T' p.2) false) (prt T (enl S C T p.1) false) with
  | some s => rfl
  | none =>
   unfold lkR;dsimp +instances only [As, Au, Ah, Ai];rw [ifT (by rfl), cond_false, c1.l, c2.l]
   have fin : cond (decide (p.1.1 < 0)) (.row []) (cond (decide (p.1.1 < (len S : Int))) (cond (decide (p.2.1 < 0)) (.row []) (cond (decide (p.2.1 < (len S' : Int))) (cond ((cl S p.1.1 1).toBool) (cond ((cl S' p.2.1 1).toBool) (D.row [.int 1, (.int 0), (.int 0)]) (.row [.int 1, (.int 4), (.int 0)])) (cond ((cl S' p.2.1 1).toBool) (.row [.int 1, (.int 4), (.int 0)]) (.row [.int 1, (.int 0), (.int 0)]))) (.row []))) (.row [])) =
     .row [.int 1, .int (((if (cl S p.1.1 1).toBool = (cl S' p.2.1 1).toBool then ((0, 0) : Nat × Nat) else (4, 0)).1 : Nat)), .int (((if (cl S p.1.1 1).toBool = (cl S' p.2.1 1).toBool then ((0, 0) : Nat × Nat) else (4, 0)).2 : Nat))] := by
    rw [ifF (by omega), ifT (by omega), ifF (by omega), ifT (by omega)]
    cases (cl S p.1.1 1).toBool <;> cases (cl S' p.2.1 1).toBool <;> rfl
   by_cases q1 : 0 < (prt T (enl S C T p.1) false).length
   ·rw [ifT (by omega)]
    by_cases q2 : (prt T' (enl S' C' T' p.2) false).length = 0
    ·rw [ifT (by omega), if_pos ⟨q1, q2⟩]
     rfl
    ·rw [ifF (by omega), if_neg (fun c => q2 c.2)]
     exact fin
   ·rw [ifF (by omega), if_neg (fun c => q1 c.1)]
    exact fin
omit [Ap] in
theorem Cf.st (hR : Rk S C T) {k : Key} (hk : KOk S C k) {t x : D} (hx : Cf S C k t x) : fd S t = k.1 := by
 have s0 := hk.s0;have s1 := hk.s1;have i1 := hR.sid k.1.toNat (by omega)
 rw [show ((k.1.toNat : Nat) : Int) = k.1 by omega] at i1
 rw [← i1];unfold fd;refine CE fun j _ _ => ?_
 show D.strEq (cl S j 0) t = D.strEq (cl S j 0) (cl S k.1 0);rw [AN (b := cl S k.1 0), HC hx.t, AN]
end
end Ci
namespace Ci
open Go Go.AE
def nxP (S C T S' C' T' : D) (p : PK) (i m : Nat) : PK := (nx S C T p.1 i, nx S' C' T' p.2 m)
def M7 (S C T S' C' T' : D) (p : PK) (i : Nat) (M : List Nat) : List PK := (M.filter fun m => alk T i T' m).map fun m => nxP S C T S' C' T' p i m
def ML (S C T S' C' T' : D) (p : PK) (m : Nat) (L : List Nat) : List PK := (L.filter fun i => alk T i T' m).map fun i => nxP S C T S' C' T' p i m
def crT (S C T S' C' T' : D) (p : PK) (L M : List Nat) : List PK := L.flatMap fun i => M7 S C T S' C' T' p i M
def crF (S C T S' C' T' : D) (p : PK) (L M : List Nat) : List PK := M.flatMap fun m => ML S C T S' C' T' p m L
def bhd (S C T S' C' T' : D) (p : PK) : List PK :=
 crT S C T S' C' T' p (prt T (enl S C T p.1) true) (prt T' (enl S' C' T' p.2) true) ++ crF S C T S' C' T' p (prt T (enl S C T p.1) false) (prt T' (enl S' C' T' p.2) false)
theorem Od {S C T S' C' T' : D} {p : PK} {i : Nat} {M : List Nat} : (M7 S C T S' C' T' p i M).length ≤ M.length := by
 unfold M7;rw [List.length_map];exact List.length_filter_le _ _
theorem Om {S C T S' C' T' : D} {p : PK} {i : Nat} {M : List Nat} : (ML S C T S' C' T' p i M).length ≤ M.length := by
 unfold ML;rw [List.length_map];exact List.length_filter_le _ _
theorem Nq {S C T S' C' T' : D} {p : PK} {M : List Nat} (hM : M.length ≤ 20) : ∀ {L : List Nat}, (crT S C T S' C' T' p L M).length ≤ 20 * L.length
 | [] => by simp [crT]
 | i :: L => by
  have a := Nq (S := S) (C := C) (T := T) (S' := S') (C' := C') (T' := T') (p := p) hM (L := L);have b := Od (S := S) (C := C) (T := T) (S' := S') (C' := C') (T' := T') (p := p) (i := i) (M := M);unfold crT at a ⊢;rw [List.flatMap_cons, List.length_append, List.length_cons];omega
theorem QF {S C T S' C' T' : D} {p : PK} {L : List Nat} (hL : L.length ≤ 20) : ∀ {M : List Nat}, (crF S C T S' C' T' p L M).length ≤ 20 * M.length
 | [] => by simp [crF]
 | i :: M => by
  have a := QF (S := S) (C := C) (T := T) (S' := S') (C' := C') (T' := T') (p := p) hL (M := M);have b := Om (S := S) (C := C) (T := T) (S' := S') (C' := C') (T' := T') (p := p) (i := i) (M := L);unfold crF at a ⊢;rw [List.flatMap_cons, List.length_append, List.length_cons];omega
theorem Wm {S C T S' C' T' : D} (hR : Rk S C T) (hR' : Rk S' C' T') {p : PK} : (bhd S C T S' C' T' p).length ≤ 800 := by
 have a := CK hR (k := p.1) (r := true);have b := CK hR (k := p.1) (r := false);have c := CK hR' (k := p.2) (r := true);have d := CK hR' (k := p.2) (r := false);have x := Nq (S := S) (C := C) (T := T) (S' := S') (C' := C') (T' := T') (p := p) c (L := prt T (enl S C T p.1) true);have y := QF (S := S) (C := C) (T := T) (S' := S') (C' := C') (T' := T') (p := p) b (M := prt T' (enl S' C' T' p.2) false);unfold bhd;rw [List.length_append];omega
def POk (S C S' C' : D) (p : PK) : Prop := KOk S C p.1 ∧ KOk S' C' p.2
def O7 (S C S' C' : D) (ps : List PK) : Prop := ∀ p ∈ ps, POk S C S' C' p
theorem Uo {S C T S' C' T' : D} (hR : Rk S C T) (hR' : Rk S' C' T') {p : PK} (hp : POk S C S' C' p) {i m : Nat} (hi : i < len T ∧ en S C T p.1 i = true) (hm : m < len T' ∧ en S' C' T' p.2 m = true) : POk S C S' C' (nxP S C T S' C' T' p i m) :=
 ⟨NR hR hp.1 hi.1 hi.2, NR hR' hp.2 hm.1 hm.2⟩
theorem Ym {S C T S' C' T' : D} (hR : Rk S C T) (hR' : Rk S' C' T') {p : PK} (hp : POk S C S' C' p) : O7 S C S' C' (bhd S C T S' C' T' p) := by
 intro q hq;unfold bhd at hq;rcases List.mem_append.1 hq with h | h
 ·obtain ⟨i, hi, h⟩ := List.mem_flatMap.1 h;obtain ⟨m, hm, rfl⟩ := List.mem_map.1 h;exact Uo hR hR' hp (Du i hi) (Du m (List.mem_filter.1 hm).1)
 ·obtain ⟨m, hm, h⟩ := List.mem_flatMap.1 h;obtain ⟨i, hi, rfl⟩ := List.mem_map.1 h;exact Uo hR hR' hp (Du i (List.mem_filter.1 hi).1) (Du m hm)
theorem KG {S C S' C' : D} : ∀ {l ps : List PK}, O7 S C S' C' l → O7 S C S' C' ps → O7 S C S' C' (l.foldl Bp ps)
 | [], ps => fun _ h => h
 | q :: l, ps => fun hl h => by
  rw [List.foldl_cons];refine KG (fun x hx => hl x (List.mem_cons_of_mem _ hx)) fun x hx => ?_
  unfold Bp at hx;split at hx
  ·exact h x hx
  ·rcases List.mem_append.1 hx with z | z
   ·exact h x z
   ·rw [List.mem_singleton.1 z];exact hl q List.mem_cons_self
section
variable [Ap]
variable {v0 S C T v0' S' C' T' : D} {w8 w9 w11 w12 : D} {b10 b13 : Bool} {i14 i15 : Int}
theorem Jt (hR : Rk S C T) {k : Key} (hk : KOk S C k) {s : Nat} (hs : s < len T ∧ en S C T k s = true) : GA (.int k.1) (.int k.2.1) (.int k.2.2.1) (.int k.2.2.2.1) (.int k.2.2.2.2) v0 S C T (.int (s : Nat)) = .row [.int 1, .int (nx S C T k s).1, .int (nx S C T k s).2.1, .int (nx S C T k s).2.2.1, .int (nx S C T k s).2.2.2.1, .int (nx S C T k s).2.2.2.2] := TM hR hk hs.1 hs.2
theorem Qa (hR : Rk S C T) (hR' : Rk S' C' T') {p : PK} (hp : POk S C S' C' p) {s i n : Nat} (hs : s < len T ∧ en S C T p.1 s = true) {da db : D} {fa fb : Bool} {M : List Nat} (hM : ∀ m ∈ M, m < len T' ∧ en S' C' T' p.2 m = true) (hd : NL M db) (hMn : M.length < 1000) (hi : i < 100000) :
  ∀ (rem pre : List Nat) (ps : List PK), M = pre ++ rem → ps.length + rem.length < 1073741824 →
  Ob db (.bool fb) (.int (s : Nat)) da (.bool fa) (.int (n : Nat)) (.int (i : Nat)) (.int (pre.length : Nat)) v0 S C T v0' S' C' T' w8 w9 (.bool b10) w11 w12 (.bool b13) (.int i14) (.int i15) (AL ps) (.bool (ps).isEmpty) (By ps) (.int p.1.1) (.int p.1.2.1) (.int p.1.2.2.1) (.int p.1.2.2.2.1) (.int p.1.2.2.2.2) (.int p.2.1) (.int p.2.2.1) (.int p.2.2.2.1) (.int p.2.2.2.2.1) (.int p.2.2.2.2.2) = Md db (.bool fb) da (.bool fa) (.int (n : Nat)) (.int (i + 1 : Nat)) v0 S C T v0' S' C' T' w8 w9 (.bool b10) w11 w12 (.bool b13) (.int i14) (.int i15) (AL ((M7 S C T S' C' T' p s rem).foldl Bp ps)) (.bool (((M7 S C T S' C' T' p s rem).foldl Bp ps)).isEmpty) (By ((M7 S C T S' C' T' p s rem).foldl Bp ps)) (.int p.1.1) (.int p.1.2.1) (.int p.1.2.2.1) (.int p.1.2.2.2.1) (.int p.1.2.2.2.2) (.int p.2.1) (.int p.2.2.1) (.int p.2.2.2.1) (.int p.2.2.2.2.1) (.int p.2.2.2.2.2)
 | [], pre, ps => fun e hl => by
  have : M.length = pre.length := by rw [e]; simp
  rw [XE (h0 := rfl) (h1 := rfl) (h2 := rfl), hd.l, ifF (by omega), AZ (by omega)]
  rfl
 | m :: rem, pre, ps => fun e hl => by
  have hg := Gn e;have hp' : pre.length < M.length := by rw [e]; simp
  have hm := hM m (by rw [e]; simp)
  have e' : M = (pre ++ [m]) ++ rem := by rw [e]; simp
  have epl : (pre ++ [m]).length = pre.length + 1 := by simp
  have hll : (m :: rem).length = rem.length + 1 := rfl;have F1 := Jt (v0 := v0) hR hp.1 hs;have F0 : GA (.int p.2.1) (.int p.2.2.1) (.int p.2.2.2.1) (.int p.2.2.2.2.1) (.int p.2.2.2.2.2) v0' S' C' T' (cl db (pre.length : Nat) 0) = .row [.int 1, (.int (nx S' C' T' p.2 m).1), (.int (nx S' C' T' p.2 m).2.1), (.int (nx S' C' T' p.2 m).2.2.1), (.int (nx S' C' T' p.2 m).2.2.2.1), (.int (nx S' C' T' p.2 m).2.2.2.2)] := by rw [hd.c _ _ hg]; exact Jt (v0 := v0') hR' hp.2 hm
  have F2 := Pb (ps := ps) (p := nxP S C T S' C' T' p s m) (by omega)
  have al := Hg (ps := ps) (p := nxP S C T S' C' T' p s m);rw [XE (h0 := F0) (h1 := F1) (h2 := F2), hd.l, ifT (by omega), ifF (by omega), ifF (by omega), ifT (by omega), hd.c _ _ hg, Ah, ifF (by omega), ifT (by omega), AZ (by omega)]
  show cond (alk T s T' m) _ _ = _;unfold M7;cases q : alk T s T' m
  ·have ih := Qa (s := s) (i := i) (n := n) (da := da) (fa := fa) (fb := fb) hR hR' hp hs hM hd hMn hi rem (pre ++ [m]) ps e' (by omega)
   rw [epl] at ih;rw [List.filter_cons_of_neg (by simp [q])]
   exact ih
  ·have ih := Qa (s := s) (i := i) (n := n) (da := da) (fa := fa) (fb := fb) hR hR' hp hs hM hd hMn hi rem (pre ++ [m]) (Bp ps (nxP S C T S' C' T' p s m)) e' (by omega)
   rw [epl] at ih;rw [List.filter_cons_of_pos (by simp [q]), List.map_cons, List.foldl_cons]
   exact ih
theorem QH (hR : Rk S C T) (hR' : Rk S' C' T') {p : PK} (hp : POk S C S' C' p) {da db : D} {fa fb : Bool} {L M : List Nat} (hL : ∀ s ∈ L, s < len T ∧ en S C T p.1 s = true) (hM : ∀ m ∈ M, m < len T' ∧ en S' C' T' p.2 m = true) (hda : NL L da) (hdb : NL M db) (hLn : L.length < 1000) (hMn : M.length < 1000) :
  ∀ (rem pre : List Nat) (ps : List PK), L = pre ++ rem → ps.length + rem.length * M.length < 1073741824 →
  Md db (.bool fb) da (.bool fa) (.int (L.length : Nat)) (.int (pre.length : Nat)) v0 S C T v0' S' C' T' w8 w9 (.bool b10) w11 w12 (.bool b13) (.int i14) (.int i15) (AL ps) (.bool (ps).isEmpty) (By ps) (.int p.1.1) (.int p.1.2.1) (.int p.1.2.2.1) (.int p.1.2.2.2.1) (.int p.1.2.2.2.2) (.int p.2.1) (.int p.2.2.1) (.int p.2.2.2.1) (.int p.2.2.2.2.1) (.int p.2.2.2.2.2) = Md db (.bool fb) da (.bool fa) (.int (L.length : Nat)) (.int (L.length : Nat)) v0 S C T v0' S' C' T' w8 w9 (.bool b10) w11 w12 (.bool b13) (.int i14) (.int i15) (AL ((crT S C T S' C' T' p rem M).foldl Bp ps)) (.bool (((crT S C T S' C' T' p rem M).foldl Bp ps)).isEmpty) (By ((crT S C T S' C' T' p rem M).foldl Bp ps)) (.int p.1.1) (.int p.1.2.1) (.int p.1.2.2.1) (.int p.1.2.2.2.1) (.int p.1.2.2.2.2) (.int p.2.1) (.int p.2.2.1) (.int p.2.2.2.1) (.int p.2.2.2.2.1) (.int p.2.2.2.2.2)
 | [], pre, ps => fun e hl => by
  have : L.length = pre.length := by rw [e]; simp
  rw [this];rfl
 | s :: rem, pre, ps => fun e hl => by
  have hg := Gn e;have hp' : pre.length < L.length := by rw [e]; simp
  have hs := hL s (by rw [e]; simp)
  have e' : L = (pre ++ [s]) ++ rem := by rw [e]; simp
  have epl : (pre ++ [s]).length = pre.length + 1 := by simp
  have hll : (s :: rem).length * M.length = rem.length * M.length + M.length := by rw [List.length_cons, Nat.succ_mul]
  have rl := Od (S := S) (C := C) (T := T) (S' := S') (C' := C') (T' := T') (p := p) (i := s) (M := M);have al := DI (l := M7 S C T S' C' T' p s M) (ps := ps);have ih := QH (da := da) (db := db) (fa := fa) (fb := fb) hR hR' hp hL hM hda hdb hLn hMn rem (pre ++ [s]) ((M7 S C T S' C' T' p s M).foldl Bp ps) e' (by omega)
  rw [epl] at ih;have I := Qa (s := s) (i := pre.length) (n := L.length) (da := da) (fa := fa) (fb := fb) (w8 := w8) (w9 := w9) (w11 := w11) (w12 := w12) (b10 := b10) (b13 := b13) (i14 := i14) (i15 := i15) (v0 := v0) (v0' := v0') hR hR' hp hs hM hdb hMn (by omega) M [] ps rfl (by omega)
  rw [XX (h0 := rfl), ifT (by omega), ifF (by omega), hda.l, ifT (by omega), hda.c _ _ hg]
  refine I.trans (ih.trans ?_);unfold crT;rw [List.flatMap_cons, List.foldl_append]
theorem Nh (hR : Rk S C T) (hR' : Rk S' C' T') {p : PK} (hp : POk S C S' C' p) {s i n : Nat} (hs : s < len T' ∧ en S' C' T' p.2 s = true) {da db : D} {fa fb : Bool} {L : List Nat} (hL : ∀ m ∈ L, m < len T ∧ en S C T p.1 m = true) (hd : NL L da) (hLn : L.length < 1000) (hi : i < 100000) :
  ∀ (rem pre : List Nat) (ps : List PK), L = pre ++ rem → ps.length + rem.length < 1073741824 →
  OI da (.bool fa) (.int (s : Nat)) db (.bool fb) (.int (n : Nat)) (.int (i : Nat)) (.int (pre.length : Nat)) v0 S C T v0' S' C' T' w8 w9 (.bool b10) w11 w12 (.bool b13) (.int i14) (.int i15) (AL ps) (.bool (ps).isEmpty) (By ps) (.int p.1.1) (.int p.1.2.1) (.int p.1.2.2.1) (.int p.1.2.2.2.1) (.int p.1.2.2.2.2) (.int p.2.1) (.int p.2.2.1) (.int p.2.2.2.1) (.int p.2.2.2.2.1) (.int p.2.2.2.2.2) = Oo da (.bool fa) db (.bool fb) (.int (n : Nat)) (.int (i + 1 : Nat)) v0 S C T v0' S' C' T' w8 w9 (.bool b10) w11 w12 (.bool b13) (.int i14) (.int i15) (AL ((ML S C T S' C' T' p s rem).foldl Bp ps)) (.bool (((ML S C T S' C' T' p s rem).foldl Bp ps)).isEmpty) (By ((ML S C T S' C' T' p s rem).foldl Bp ps)) (.int p.1.1) (.int p.1.2.1) (.int p.1.2.2.1) (.int p.1.2.2.2.1) (.int p.1.2.2.2.2) (.int p.2.1) (.int p.2.2.1) (.int p.2.2.2.1) (.int p.2.2.2.2.1) (.int p.2.2.2.2.2)
 | [], pre, ps => fun e hl => by
  have : L.length = pre.length := by rw [e]; simp
  rw [Xq (h0 := rfl) (h1 := rfl) (h2 := rfl), hd.l, ifF (by omega), AZ (by omega)]
  rfl
 | m :: rem, pre, ps => fun e hl => by
  have hg := Gn e;have hp' : pre.length < L.length := by rw [e]; simp
  have hm := hL m (by rw [e]; simp)
  have e' : L = (pre ++ [m]) ++ rem := by rw [e]; simp
  have epl : (pre ++ [m]).length = pre.length + 1 := by simp
  have hll : (m :: rem).length = rem.length + 1 := rfl;have F1 := Jt (v0 := v0') hR' hp.2 hs;have F0 : GA (.int p.1.1) (.int p.1.2.1) (.int p.1.2.2.1) (.int p.1.2.2.2.1) (.int p.1.2.2.2.2) v0 S C T (cl da (pre.length : Nat) 0) = .row [.int 1, (.int (nx S C T p.1 m).1), (.int (nx S C T p.1 m).2.1), (.int (nx S C T p.1 m).2.2.1), (.int (nx S C T p.1 m).2.2.2.1), (.int (nx S C T p.1 m).2.2.2.2)] := by rw [hd.c _ _ hg]; exact Jt (v0 := v0) hR hp.1 hm
  have F2 := Pb (ps := ps) (p := nxP S C T S' C' T' p m s) (by omega)
  have al := Hg (ps := ps) (p := nxP S C T S' C' T' p m s);rw [Xq (h0 := F0) (h1 := F1) (h2 := F2), hd.l, ifT (by omega), ifF (by omega), hd.c _ _ hg, Ah, ifF (by omega), ifT (by omega), ifF (by omega), ifT (by omega), AZ (by omega)]
  show cond (alk T m T' s) _ _ = _;unfold ML;cases q : alk T m T' s
  ·have ih := Nh (s := s) (i := i) (n := n) (db := db) (fa := fa) (fb := fb) hR hR' hp hs hL hd hLn hi rem (pre ++ [m]) ps e' (by omega)
   rw [epl] at ih;rw [List.filter_cons_of_neg (by simp [q])]
   exact ih
  ·have ih := Nh (s := s) (i := i) (n := n) (db := db) (fa := fa) (fb := fb) hR hR' hp hs hL hd hLn hi rem (pre ++ [m]) (Bp ps (nxP S C T S' C' T' p m s)) e' (by omega)
   rw [epl] at ih;rw [List.filter_cons_of_pos (by simp [q]), List.map_cons, List.foldl_cons]
   exact ih
theorem Oe (hR : Rk S C T) (hR' : Rk S' C' T') {p : PK} (hp : POk S C S' C' p) {da db : D} {fa fb : Bool} {L M : List Nat} (hL : ∀ s ∈ L, s < len T ∧ en S C T p.1 s = true) (hM : ∀ m ∈ M, m < len T' ∧ en S' C' T' p.2 m = true) (hda : NL L da) (hdb : NL M db) (hLn : L.length < 1000) (hMn : M.length < 1000) :
  ∀ (rem pre : List Nat) (ps : List PK), M = pre ++ rem → ps.length + rem.length * L.length < 1073741824 →
  Oo da (.bool fa) db (.bool fb) (.int (M.length : Nat)) (.int (pre.length : Nat)) v0 S C T v0' S' C' T' w8 w9 (.bool b10) w11 w12 (.bool b13) (.int i14) (.int i15) (AL ps) (.bool (ps).isEmpty) (By ps) (.int p.1.1) (.int p.1.2.1) (.int p.1.2.2.1) (.int p.1.2.2.2.1) (.int p.1.2.2.2.2) (.int p.2.1) (.int p.2.2.1) (.int p.2.2.2.1) (.int p.2.2.2.2.1) (.int p.2.2.2.2.2) = .row [.int 1, .bool false, v0, S, C, T, v0', S', C', T', w8, w9, (.bool b10), w11, w12, (.bool b13), (.int i14), (.int i15), (AL ((crF S C T S' C' T' p L rem).foldl Bp ps)), (.bool (((crF S C T S' C' T' p L rem).foldl Bp ps)).isEmpty), (By ((crF S C T S' C' T' p L rem).foldl Bp ps))]
 | [], pre, ps => fun e hl => by
  have : M.length = pre.length := by rw [e]; simp
  rw [XS, ifF (by omega)]
  rfl
 | s :: rem, pre, ps => fun e hl => by
  have hg := Gn e;have hp' : pre.length < M.length := by rw [e]; simp
  have hs := hM s (by rw [e]; simp)
  have e' : M = (pre ++ [s]) ++ rem := by rw [e]; simp
  have epl : (pre ++ [s]).length = pre.length + 1 := by simp
  have hll : (s :: rem).length * L.length = rem.length * L.length + L.length := by rw [List.length_cons, Nat.succ_mul]
  have rl := Om (S := S) (C := C) (T := T) (S' := S') (C' := C') (T' := T') (p := p) (i := s) (M := L);have al := DI (l := ML S C T S' C' T' p s L) (ps := ps);have ih := Oe (da := da) (db := db) (fa := fa) (fb := fb) hR hR' hp hL hM hda hdb hLn hMn rem (pre ++ [s]) ((ML S C T S' C' T' p s L).foldl Bp ps) e' (by omega)
  rw [epl] at ih;have I := Nh (s := s) (i := pre.length) (n := M.length) (db := db) (fa := fa) (fb := fb) (w8 := w8) (w9 := w9) (w11 := w11) (w12 := w12) (b10 := b10) (b13 := b13) (i14 := i14) (i15 := i15) (v0 := v0) (v0' := v0') hR hR' hp hs hL hda hLn (by omega) L [] ps rfl (by omega)
  rw [XS, ifT (by omega), ifF (by omega), hdb.l, ifT (by omega), hdb.c _ _ hg]
  refine I.trans (ih.trans ?_);unfold crF;rw [List.flatMap_cons, List.foldl_append]
theorem Y6 (hR : Rk S C T) (hR' : Rk S' C' T') {p : PK} (hp : POk S C S' C' p) {ps : List PK} (hl : ps.length < 100000000) (hf : (flt S C T S' C' T' p).1 = 0) :
  L7 v0 S C T v0' S' C' T' w8 w9 (.bool b10) w11 w12 (.bool b13) (.int i14) (.int i15) (.int p.1.1) (.int p.1.2.1) (.int p.1.2.2.1) (.int p.1.2.2.2.1) (.int p.1.2.2.2.2) (.int p.2.1) (.int p.2.2.1) (.int p.2.2.2.1) (.int p.2.2.2.2.1) (.int p.2.2.2.2.2) (AL ps) (.bool (ps).isEmpty) (By ps) = .row [.int 1, .bool false, v0, S, C, T, v0', S', C', T', w8, w9, (.bool b10), w11, w12, (.bool b13), (.int i14), (.int i15), (AL ((bhd S C T S' C' T' p).foldl Bp ps)), (.bool (((bhd S C T S' C' T' p).foldl Bp ps)).isEmpty), (By ((bhd S C T S' C' T' p).foldl Bp ps))] := by
 obtain ⟨da, db, fa, fb, a1, a2, a3⟩ := K0 (v0 := v0) (v0' := v0') (w8 := w8) (w9 := w9) (w11 := w11) (w12 := w12) (b10 := b10) (b13 := b13) (i14 := i14) (i15 := i15) hR hR' hp.1 hp.2 (r := true);obtain ⟨dc, dd, fc, fd, c1, c2, c3⟩ := K0 (v0 := v0) (v0' := v0') (w8 := w8) (w9 := w9) (w11 := w11) (w12 := w12) (b10 := b10) (b13 := b13) (i14 := i14) (i15 := i15) hR hR' hp.1 hp.2 (r := false);have m1 := fun r => CK hR (k := p.1) (r := r)
 have m2 := fun r => CK hR' (k := p.2) (r := r)
 have x1 := m1 true;have x2 := m2 true;have x3 := m1 false;have x4 := m2 false;have y1 : (prt T (enl S C T p.1) true).length * (prt T' (enl S' C' T' p.2) true).length ≤ 20 * 20 := Nat.mul_le_mul x1 x2;have y2 : (prt T' (enl S' C' T' p.2) false).length * (prt T (enl S C T p.1) false).length ≤ 20 * 20 := Nat.mul_le_mul x4 x3;have cl1 := Nq (S := S) (C := C) (T := T) (S' := S') (C' := C') (T' := T') (p := p) x2 (L := prt T (enl S C T p.1) true);have al1 := DI (l := crT S C T S' C' T' p (prt T (enl S C T p.1) true) (prt T' (enl S' C' T' p.2) true)) (ps := ps);have A := QH (da := da) (db := db) (fa := fa) (fb := fb) (w8 := w8) (w9 := w9) (w11 := w11) (w12 := w12) (b10 := b10) (b13 := b13) (i14 := i14) (i15 := i15) (v0 := v0) (v0' := v0') hR hR' hp (L := prt T (enl S C T p.1) true) (M := prt T' (enl S' C' T' p.2) true) Du Du a1 a2 (by omega) (by omega) (prt T (enl S C T p.1) true) [] ps rfl (by omega)
 have B := Oe (da := dc) (db := dd) (fa := fc) (fb := fd) (w8 := w8) (w9 := w9) (w11 := w11) (w12 := w12) (b10 := b10) (b13 := b13) (i14 := i14) (i15 := i15) (v0 := v0) (v0' := v0') hR hR' hp (L := prt T (enl S C T p.1) false) (M := prt T' (enl S' C' T' p.2) false) Du Du c1 c2 (by omega) (by omega) (prt T' (enl S' C' T' p.2) false) [] ((crT S C T S' C' T' p (prt T (enl S C T p.1) true) (prt T' (enl S' C' T' p.2) true)).foldl Bp ps) rfl (by omega)
 rw [XR (h0 := a3) (h1 := UF hR hR' hp.1 hp.2), hf];dsimp +instances only [As, Au, Ah, Ai];rw [ifT (by rfl), ifT (by rfl), ifT (by rfl), a1.l]
 refine A.trans ?_;rw [XX (h0 := c3), ifF (by omega)]
 dsimp +instances only [As, Au, Ah, Ai];rw [ifT (by rfl), c2.l]
 refine B.trans ?_;unfold bhd;rw [List.foldl_append]
theorem W7 (hR : Rk S C T) (hR' : Rk S' C' T') {p : PK} (hp : POk S C S' C' p) {ps : List PK} (hf : (flt S C T S' C' T' p).1 ≠ 0) :
  ∃ x x', Cf S C p.1 (cl S p.1.1 0) x ∧ Cf S' C' p.2 (cl S' p.2.1 0) x' ∧
  L7 v0 S C T v0' S' C' T' w8 w9 (.bool b10) w11 w12 (.bool b13) (.int i14) (.int i15) (.int p.1.1) (.int p.1.2.1) (.int p.1.2.2.1) (.int p.1.2.2.2.1) (.int p.1.2.2.2.2) (.int p.2.1) (.int p.2.2.1) (.int p.2.2.2.1) (.int p.2.2.2.2.1) (.int p.2.2.2.2.2) (AL ps) (.bool (ps).isEmpty) (By ps) = .row [.int 1, .bool true, v0, S, C, T, v0', S', C', T', cl S p.1.1 0, x, .bool false, cl S' p.2.1 0, x', .bool false, .int ((flt S C T S' C' T' p).1 : Nat), .int ((flt S C T S' C' T' p).2 : Nat), (AL ps), (.bool (ps).isEmpty), (By ps)] := by
 obtain ⟨da, db, fa, fb, a1, a2, a3⟩ := K0 (v0 := v0) (v0' := v0') (w8 := w8) (w9 := w9) (w11 := w11) (w12 := w12) (b10 := b10) (b13 := b13) (i14 := i14) (i15 := i15) hR hR' hp.1 hp.2 (r := true);obtain ⟨x, x1, x2⟩ := Ul (v0 := v0) hR hp.1;obtain ⟨y, y1, y2⟩ := Ul (v0 := v0') hR' hp.2;refine ⟨x, y, x2, y2, ?_⟩;rw [XR (h0 := a3) (h1 := UF hR hR' hp.1 hp.2)];dsimp +instances only [As, Au, Ah, Ai];rw [ifT (by rfl), ifF (by omega), x1, y1]
 rfl
end
end Ci
namespace Ci
open Go Go.AE
def srP (S C T S' C' T' : D) : Nat → List PK → Nat → Option PK × List PK
 | 0, ps, _ => (none, ps)
 | f + 1, ps, i => match ps[i]? with
  | none => (none, ps)
  | some p => if (flt S C T S' C' T' p).1 = 0 then srP S C T S' C' T' f ((bhd S C T S' C' T' p).foldl Bp ps) (i + 1) else (some p, ps)
theorem UH {ps : List PK} {p : PK} : ad (AL ps) (.row (CY p)) = AL (ps ++ [p]) := by
 unfold AL ad;simp [D.rows]
def Xa (S C S' C' : D) (T T' : D) (v0 v0' : D) (w8 w9 w10 w11 w12 w13 w14 w15 : D) (d : D) : Option PK × List PK → Prop
 | (none, ps) => d = .row [.int 1, AL ps, .bool ps.isEmpty, .bool (decide (4000 < (ps.length : Int))), v0, S, C, T, v0', S', C', T', w8, w9, w10, w11, w12, w13, w14, w15]
 | (some p, ps) => ∃ x x', POk S C S' C' p ∧ Cf S C p.1 (cl S p.1.1 0) x ∧ Cf S' C' p.2 (cl S' p.2.1 0) x' ∧ (flt S C T S' C' T' p).1 ≠ 0 ∧
  d = .row [.int 1, AL ps, .bool ps.isEmpty, .bool false, v0, S, C, T, v0', S', C', T', cl S p.1.1 0, x, .bool false, cl S' p.2.1 0, x', .bool false, .int ((flt S C T S' C' T' p).1 : Nat), .int ((flt S C T S' C' T' p).2 : Nat)]
section
variable [Ap]
variable {v0 S C T v0' S' C' T' : D} {w8 w9 w11 w12 : D} {b10 b13 : Bool} {i14 i15 : Int}
theorem Oa (hR : Rk S C T) (hR' : Rk S' C' T') {w : D} : ∀ {f i : Nat} {ps : List PK}, i + f = 4000 → ps.length ≤ 10000 + 800 * i → O7 S C S' C' ps →
  Xa S C S' C' T T' v0 v0' w8 w9 (.bool b10) w11 w12 (.bool b13) (.int i14) (.int i15) (OM (.int 4000) (.int (i : Nat)) w v0 S C T v0' S' C' T' w8 w9 (.bool b10) w11 w12 (.bool b13) (.int i14) (.int i15) (AL ps) (.bool (ps).isEmpty) (By ps)) (srP S C T S' C' T' f ps i)
 | 0, i, ps => fun h hl ho => by
  show _ = _;rw [RF (h0 := rfl), CG];by_cases c : i < ps.length
  ·rw [ifT (by omega), ifF (by omega)]
  ·rw [ifF (by omega)]
 | f + 1, i, ps => fun h hl ho => by
  rw [srP];by_cases c : i < ps.length
  ·have hg : ps[i]? = some ps[i] := List.getElem?_eq_getElem c;have hp := ho _ (List.getElem_mem c);have hb := Wm hR hR' (p := ps[i]);have al := DI (l := bhd S C T S' C' T' ps[i]) (ps := ps)
   have F0 : ∀ X, L7 v0 S C T v0' S' C' T' w8 w9 (.bool b10) w11 w12 (.bool b13) (.int i14) (.int i15) (.int ps[i].1.1) (.int ps[i].1.2.1) (.int ps[i].1.2.2.1) (.int ps[i].1.2.2.2.1) (.int ps[i].1.2.2.2.2) (.int ps[i].2.1) (.int ps[i].2.2.1) (.int ps[i].2.2.2.1) (.int ps[i].2.2.2.2.1) (.int ps[i].2.2.2.2.2) (AL ps) (.bool (ps).isEmpty) (By ps) = X → L7 v0 S C T v0' S' C' T' w8 w9 (.bool b10) w11 w12 (.bool b13) (.int i14) (.int i15) (cl (AL ps) (i : Nat) 0) (cl (AL ps) (i : Nat) 1) (cl (AL ps) (i : Nat) 2) (cl (AL ps) (i : Nat) 3) (cl (AL ps) (i : Nat) 4) (cl (AL ps) (i : Nat) 5) (cl (AL ps) (i : Nat) 6) (cl (AL ps) (i : Nat) 7) (cl (AL ps) (i : Nat) 8) (cl (AL ps) (i : Nat) 9) (AL ps) (.bool (ps).isEmpty) (By ps) = X := fun X h => by
    rw [AW hg, AW hg, AW hg, AW hg, AW hg, AW hg, AW hg, AW hg, AW hg, AW hg];exact h
   rw [hg];show Xa S C S' C' T T' v0 v0' w8 w9 (.bool b10) w11 w12 (.bool b13) (.int i14) (.int i15) _ (if (flt S C T S' C' T' ps[i]).1 = 0 then srP S C T S' C' T' f ((bhd S C T S' C' T' ps[i]).foldl Bp ps) (i + 1) else (some ps[i], ps))
   by_cases q : (flt S C T S' C' T' ps[i]).1 = 0
   ·have N := F0 _ (Y6 (v0 := v0) (v0' := v0') (w8 := w8) (w9 := w9) (w11 := w11) (w12 := w12) (b10 := b10) (b13 := b13) (i14 := i14) (i15 := i15) hR hR' hp (by omega) q)
    rw [if_pos q, RF (h0 := N), CG, ifT (by omega), ifT (by omega), ifF (by omega)]
    dsimp +instances only [As, Au, Ah, Ai];rw [ifT (by rfl), cond_false, AZ (by omega)]
    exact Oa hR hR' (by omega) (by omega) (KG (Ym hR hR' hp) ho)
   ·obtain ⟨x, x', x1, x2, x3⟩ := W7 (v0 := v0) (v0' := v0') (w8 := w8) (w9 := w9) (w11 := w11) (w12 := w12) (b10 := b10) (b13 := b13) (i14 := i14) (i15 := i15) hR hR' hp (ps := ps) q;rw [if_neg q, RF (h0 := F0 _ x3), CG, ifT (by omega), ifT (by omega), ifF (by omega)]
    dsimp +instances only [As, Au, Ah, Ai];rw [ifT (by rfl), cond_true]
    exact ⟨x, x', hp, x1, x2, q, rfl⟩
  ·rw [List.getElem?_eq_none (by omega)]
   show _ = _;rw [RF (h0 := rfl), CG, ifF (by omega)]
theorem Ml {fs : List PK} {b : Bool} (hn : fs.length < 10000) : ∀ (rem pre : List PK) (ps : List PK), fs = pre ++ rem → ps.length ≤ pre.length →
  OT (.int 4000) (AL fs) (.bool b) (.int (pre.length : Nat)) v0 S C T v0' S' C' T' w8 w9 (.bool b10) w11 w12 (.bool b13) (.int i14) (.int i15) (AL ps) (.bool (ps).isEmpty) (By ps) = OM (.int 4000) (.int 0) (AL fs) v0 S C T v0' S' C' T' w8 w9 (.bool b10) w11 w12 (.bool b13) (.int i14) (.int i15) (AL (rem.foldl Bp ps)) (.bool ((rem.foldl Bp ps)).isEmpty) (By (rem.foldl Bp ps))
 | [], pre, ps => fun e hl => by
  have : fs.length = pre.length := by rw [e]; simp
  rw [XG, CG, ifF (by omega)]
  rfl
 | q :: rem, pre, ps => fun e hl => by
  have hg : fs[pre.length]? = some q := by rw [e]; simp
  have hp : pre.length < fs.length := by rw [e]; simp
  have e' : fs = (pre ++ [q]) ++ rem := by rw [e]; simp
  have epl : (pre ++ [q]).length = pre.length + 1 := by simp
  have al := Hg (ps := ps) (p := q);have F := Pb (ps := ps) (p := q) (by omega)
  have ih := Ml (b := b) hn rem (pre ++ [q]) (Bp ps q) e' (by omega)
  rw [epl] at ih;rw [XG, CG, ifT (by omega), ifF (by omega), AW hg, AW hg, AW hg, AW hg, AW hg, AW hg, AW hg, AW hg, AW hg, AW hg, AZ (by omega)]
  have F : Hs (AL ps) (.bool (ps).isEmpty) (By ps) ((CY q).getD 0 default) ((CY q).getD 1 default) ((CY q).getD 2 default) ((CY q).getD 3 default) ((CY q).getD 4 default) ((CY q).getD 5 default) ((CY q).getD 6 default) ((CY q).getD 7 default) ((CY q).getD 8 default) ((CY q).getD 9 default) = .row [.int 1, AL (Bp ps q), .bool (Bp ps q).isEmpty, By (Bp ps q)] := F;rw [F];dsimp +instances only [As, Au, Ah, Ai];rw [ifT (by rfl)]
  exact ih
theorem YJ (hR : Rk S C T) (hR' : Rk S' C' T') {fs : List PK} {b : Bool} (hn : fs.length < 10000) (ho : O7 S C S' C' fs) :
  Xa S C S' C' T T' v0 v0' w8 w9 (.bool b10) w11 w12 (.bool b13) (.int i14) (.int i15) (TE (AL fs) (.bool b) (.int 4000) v0 S C T v0' S' C' T' w8 w9 (.bool b10) w11 w12 (.bool b13) (.int i14) (.int i15)) (srP S C T S' C' T' 4000 (fs.foldl Bp []) 0) := by
 have al := DI (l := fs) (ps := []);have F := Ml (w8 := w8) (w9 := w9) (w11 := w11) (w12 := w12) (b10 := b10) (b13 := b13) (i14 := i14) (i15 := i15) (v0 := v0) (v0' := v0') (S := S) (C := C) (T := T) (S' := S') (C' := C') (T' := T') (b := b) hn fs [] [] rfl (Nat.le_refl _);rw [eN, show OT (.int 4000) (AL fs) (.bool b) (.int 0) v0 S C T v0' S' C' T' w8 w9 (.bool b10) w11 w12 (.bool b13) (.int i14) (.int i15) A3 (.bool true) Aw = _ from F]
 simp only [List.length_nil, Nat.zero_add] at al;exact Oa hR hR' (i := 0) (by omega) (by omega) (KG ho fun x hx => by cases hx)
end
end Ci
namespace Ci
open Go Go.AE
structure Ck (S C S' C' P Q : D) : Prop where
 np : len P ≤ 30
 nq : len Q ≤ 8
 q : Kt Q
 tp : ∀ i, i < len P → IG P i = false
 tq : ∀ i, i < len Q → IG Q i = false
 sp : ∀ i, i < len P → 0 ≤ fd S' (cl P i 1)
 cq : ∀ i, i < len Q → 0 ≤ pl C' Q i
theorem YL [Ap] {v0 S C T v0' S' C' T' P Q : D} {a : Int} (hp : len P ≤ 30) (hq : len Q ≤ 8) (hQ : Kt Q) (h : chk v0 S C T v0' S' C' T' P Q = .row [.int 1, .int a, .int 0]) : rok v0 S C T = true ∧ rok v0' S' C' T' = true ∧ Ck S C S' C' P Q := by
 unfold chk at h;cases r1 : rok v0 S C T
 ·rw [r1] at h; cases h
 cases r2 : rok v0' S' C' T'
 ·rw [r1, r2] at h; cases h
 rw [r1, r2, cond_true, cond_true] at h;by_cases c1 : 24 < (len P : Int)
 ·rw [ifT c1] at h; cases h
 rw [ifF c1] at h;by_cases c2 : fdG (Ih S S' P) (len P) 0 < 0;rotate_left
 ·rw [ifF c2] at h; cases h
 rw [ifT c2] at h;by_cases c3 : 4 < (len Q : Int)
 ·rw [ifT c3] at h; cases h
 rw [ifF c3] at h;by_cases c4 : fdG (Iu C C' Q) (len Q) 0 < 0;rotate_left
 ·rw [ifF c4] at h; cases h
 have hP : ∀ i, i < len P → Ih S S' P i = false := fun i hi => DJ (p := Ih S S' P) (k := len P) (i := 0) (j := i) (by omega) (.inr ⟨c2, by omega⟩)
 have hQ' : ∀ i, i < len Q → Iu C C' Q i = false := fun i hi => DJ (p := Iu C C' Q) (k := len Q) (i := 0) (j := i) (by omega) (.inr ⟨c4, by omega⟩)
 refine ⟨rfl, rfl, hp, hq, hQ, fun i hi => ?_, fun i hi => ?_, fun i hi => ?_, fun i hi => ?_⟩
 ·have := hP i hi;unfold Ih at this;simp only [Bool.or_eq_false_iff] at this;exact this.2.2
 ·have := hQ' i hi;unfold Iu at this;simp only [Bool.or_eq_false_iff] at this;exact this.2.2.1
 ·have := hP i hi;unfold Ih at this;simp only [Bool.or_eq_false_iff, decide_eq_false_iff_not] at this;omega
 ·have := hQ' i hi;unfold Iu at this;simp only [Bool.or_eq_false_iff, decide_eq_false_iff_not] at this;show 0 ≤ fd C' (cl Q i 0);omega
def xk (C : D) (k : Key) : D := Eg (kc k) (len C)
theorem NF {S C : D} {k : Key} (hk : KOk S C k) (j : Nat) : kv (xk C k) j = kc k j := by
 unfold kv xk;rw [K8];by_cases c : j < len C
 ·rw [if_pos c, HV c];rfl
 ·rw [if_neg c, hk.v1 j (by omega)]
def cvK (S C S' C' P Q : D) (k : Key) : Option Key :=
 if fd P (cl S k.1 0) < 0 then none
 else if fdG (Jo C C' Q (xk C k)) (len Q) 0 < 0 then some (fd S' (cl P (fd P (cl S k.1 0)) 1), vs C C' Q (xk C k) 0 (len Q), vs C C' Q (xk C k) 1 (len Q), vs C C' Q (xk C k) 2 (len Q), vs C C' Q (xk C k) 3 (len Q))
 else none
def cvE (S C S' C' P Q : D) (k : Key) : Int := if fd P (cl S k.1 0) < 0 then 9 else 3
def cvD (S C S' C' P Q : D) (k : Key) : D := match cvK S C S' C' P Q k with
 | some n => .row [.int 1, (.int n.1), (.int n.2.1), (.int n.2.2.1), (.int n.2.2.2.1), (.int n.2.2.2.2), .int 0]
 | none => .row [.int 1, .int 0, .int 0, .int 0, .int 0, .int 0, .int (cvE S C S' C' P Q k)]
theorem Zs [Ap] {S C T S' C' T' P Q : D} (hR : Rk S C T) (hR' : Rk S' C' T') (hC : Ck S C S' C' P Q) {k n : Key} (h : cvK S C S' C' P Q k = some n) : KOk S' C' n := by
 have hc' := hR'.c1;unfold cvK at h;by_cases a : fd P (cl S k.1 0) < 0
 ·rw [if_pos a] at h; cases h
 rw [if_neg a] at h;by_cases b : fdG (Jo C C' Q (xk C k)) (len Q) 0 < 0;rotate_left
 ·rw [if_neg b] at h; cases h
 rw [if_pos b] at h;have lt := C2 (l := P) (key := cl S k.1 0);have sp := hC.sp (fd P (cl S k.1 0)).toNat (by omega)
 rw [show (((fd P (cl S k.1 0)).toNat : Nat) : Int) = fd P (cl S k.1 0) by omega] at sp
 have lt' := C2 (l := S') (key := cl P (fd P (cl S k.1 0)) 1)
 have nv : ∀ j, vs C C' Q (xk C k) j (len Q) = 0 ∨ (j < len C' ∧ 0 ≤ vs C C' Q (xk C k) j (len Q) ∧ vs C C' Q (xk C k) j (len Q) ≤ (cl C' j 1).toInt) := fun j => by
  rcases eT (v2 := C) (v6 := C') (v9 := Q) (v11 := xk C k) (j := j) (i := len Q) with e | ⟨i, h1, h2, h3⟩
  ·exact .inl e
  ·right;have l1 : pl C' Q i < len C' := C2;have no := DJ (p := Jo C C' Q (xk C k)) (k := len Q) (i := 0) (j := i) (by omega) (.inr ⟨b, by omega⟩)
   unfold Jo at no;simp only [Bool.or_eq_false_iff, decide_eq_false_iff_not] at no;rw [h2] at no;rw [h3];omega
 have kn : ∀ j, j < 4 → kc n j = vs C C' Q (xk C k) j (len Q) := fun j hj => by
  cases h
  match j with
  | 0 => rfl
  | 1 => rfl
  | 2 => rfl
  | 3 => rfl
  | j + 4 => omega
 have n1 : n.1 = fd S' (cl P (fd P (cl S k.1 0)) 1) := by cases h; rfl
 refine ⟨by omega, by omega, fun j hj => ?_, fun j hj => ?_⟩
 ·rw [kn j (by omega)]
  have l := hR'.lim j hj;rcases nv j with e | e <;> omega
 ·by_cases c : j < 4
  ·rw [kn j c];rcases nv j with e | e
   ·exact e
   ·omega
  ·exact Un (by omega)
section
variable [Ap]
variable {v0 S C T v0' S' C' T' P Q : D}
variable {p8 p9 : Bool}
theorem bP (hR : Rk S C T) (hR' : Rk S' C' T') (hC : Ck S C S' C' P Q) {k : Key} (hk : KOk S C k) :
  NB v0 S C T v0' S' C' T' P (.bool p8) Q (.bool p9) (.int k.1) (.int k.2.1) (.int k.2.2.1) (.int k.2.2.2.1) (.int k.2.2.2.2) = cvD S C S' C' P Q k := by
 have hc := hR.c1;have hc' := hR'.c1;have s0 := hk.s0;have s1 := hk.s1;have s1' := hR'.s1;have np := hC.np;have nq := hC.nq;have F := Yp (p8 := p8) (p9 := p9) (v0 := v0) (v1 := S) (v2 := C) (v3 := T) (v4 := v0') (v5 := S') (v6 := C') (v7 := T') (v8 := P) (v9 := Q) (v11 := xk C k) (st := k.1.toNat) hC.q (by omega) (by omega) (by omega) hc hc' (by omega) hC.cq
 rw [show ((k.1.toNat : Nat) : Int) = k.1 by omega, NF hk, NF hk, NF hk, NF hk] at F
 refine F.trans ?_;unfold cvD cvK cvE;by_cases a : fd P (cl S k.1 0) < 0
 ·rw [ifT a, if_pos a, if_pos a]
 rw [ifF a, if_neg a, if_neg a];by_cases b : fdG (Jo C C' Q (xk C k)) (len Q) 0 < 0
 ·rw [ifT b, if_pos b]
 ·rw [ifF b, if_neg b]
def Wk (S C S' C' P Q : D) (k : Key) : Option PK := (cvK S C S' C' P Q k).map fun n => (k, n)
def Jm (S C S' C' P Q : D) (ks : List Key) : List PK := ks.filterMap (Wk S C S' C' P Q)
omit [Ap] in
theorem SP {k : Key} {ks : List Key} : Jm S C S' C' P Q (k :: ks) = match cvK S C S' C' P Q k with | some n => (k, n) :: Jm S C S' C' P Q ks | none => Jm S C S' C' P Q ks := by
 unfold Jm;rw [List.filterMap_cons];unfold Wk;cases cvK S C S' C' P Q k <;> rfl
omit [Ap] in
theorem S3 {ks : List Key} : (Jm S C S' C' P Q ks).length ≤ ks.length := List.length_filterMap_le _ _
theorem WD (hR : Rk S C T) (hR' : Rk S' C' T') (hC : Ck S C S' C' P Q) {ks : List Key} (h : Fo S C ks) : O7 S C S' C' (Jm S C S' C' P Q ks) := by
 intro p hp;obtain ⟨k, hk, e⟩ := List.mem_filterMap.1 hp;unfold Wk at e;cases c : cvK S C S' C' P Q k with
 | none => rw [c] at e; cases e
 | some n =>
  rw [c] at e;cases e;exact ⟨h k hk, Zs hR hR' hC c⟩
theorem K3 (hR : Rk S C T) (hR' : Rk S' C' T') (hC : Ck S C S' C' P Q) {ks : List Key} (hk : Fo S C ks) (hn : ks.length < 10000) {fl : Bool} : ∀ (rem pre : List Key) (ps : List PK), ks = pre ++ rem → ps.length ≤ pre.length →
  Kv (AL ps) (.bool ps.isEmpty) (Bk ks) (.bool fl) (.int (ks.length : Nat)) (.int (pre.length : Nat)) P Q v0 S C T v0' S' C' T' (.bool p8) (.bool p9) = Kv (AL (ps ++ Jm S C S' C' P Q rem)) (.bool (ps ++ Jm S C S' C' P Q rem).isEmpty) (Bk ks) (.bool fl) (.int (ks.length : Nat)) (.int (ks.length : Nat)) P Q v0 S C T v0' S' C' T' (.bool p8) (.bool p9)
 | [], pre, ps => fun e hl => by
  have : ks.length = pre.length := by rw [e]; simp
  rw [this, show ps ++ Jm S C S' C' P Q [] = ps from List.append_nil _]
 | k :: rem, pre, ps => fun e hl => by
  have hg : ks[pre.length]? = some k := by rw [e]; simp
  have hp : pre.length < ks.length := by rw [e]; simp
  have hkk := hk k (by rw [e]; simp)
  have e' : ks = (pre ++ [k]) ++ rem := by rw [e]; simp
  have epl : (pre ++ [k]).length = pre.length + 1 := by simp
  have F1 : NB v0 S C T v0' S' C' T' P (.bool p8) Q (.bool p9) (cl (Bk ks) (pre.length : Nat) 0) (cl (Bk ks) (pre.length : Nat) 1) (cl (Bk ks) (pre.length : Nat) 2) (cl (Bk ks) (pre.length : Nat) 3) (cl (Bk ks) (pre.length : Nat) 4) = cvD S C S' C' P Q k := by
   rw [Bm hg, Bm hg, Bm hg, Bm hg, Bm hg];exact bP hR hR' hC hkk
  rw [U4 (h0 := rfl) (h1 := F1), ifT (by omega), ifF (by omega), EQ, ifT (by omega), AZ (by omega), Bm hg, Bm hg, Bm hg, Bm hg, Bm hg, SP]
  unfold cvD;cases c : cvK S C S' C' P Q k with
  | none =>
   have ih := K3 (fl := fl) hR hR' hC hk hn rem (pre ++ [k]) ps e' (by omega)
   rw [epl] at ih;dsimp +instances only [As, Au, Ah, Ai];rw [ifT (by rfl), ifF (by unfold cvE; split <;> omega)]
   exact ih
  | some n =>
   have ih := K3 (fl := fl) hR hR' hC hk hn rem (pre ++ [k]) (ps ++ [(k, n)]) e' (by simp; omega)
   rw [epl, show (ps ++ [(k, n)]).isEmpty = false by simp, List.append_assoc] at ih
   dsimp +instances only [As, Au, Ah, Ai];rw [ifT (by rfl), ifT (by rfl), CG, ifT (by omega)]
   have ea : ad (AL ps) (.row (CY (k, n))) = AL (ps ++ [(k, n)]) := UH;refine Eq.trans ?_ ih;rw [← ea];rfl
def res (S C T S' C' T' P Q : D) : Option PK × List PK := srP S C T S' C' T' 4000 ((Jm S C S' C' P Q (Gw S C T)).foldl Bp []) 0
theorem Y2 (hR : Rk S C T) (hR' : Rk S' C' T') (hC : Ck S C S' C' P Q) {a : Int} (h : Mg v0 S C T v0' S' C' T' P (.bool p8) Q (.bool p9) = .row [.int 1, .int a, .int 0]) :
  (2000 < (Gw S C T).length ∧ Jc v0 S C T v0' S' C' T' P (.bool p8) Q (.bool p9) = .row [.int 1, Fr 0 0, A3, .bool true, Fr 0 0, A3, .bool true, .int 0, .int 0, .bool false, .int 7]) ∨
  ((Gw S C T).length ≤ 2000 ∧ match res S C T S' C' T' P Q with
   | (none, ps) => Jc v0 S C T v0' S' C' T' P (.bool p8) Q (.bool p9) = cond (decide (4000 < (ps.length : Int))) (.row [.int 1, Fr 0 0, A3, .bool true, Fr 0 0, A3, .bool true, .int 0, .int 0, .bool false, .int 7]) (.row [.int 1, Fr 0 0, A3, .bool true, Fr 0 0, A3, .bool true, .int 0, .int 0, .bool true, .int 0])
   | (some p, ps) => ∃ x x', POk S C S' C' p ∧ Cf S C p.1 (cl S p.1.1 0) x ∧ Cf S' C' p.2 (cl S' p.2.1 0) x' ∧ (flt S C T S' C' T' p).1 ≠ 0 ∧
     Jc v0 S C T v0' S' C' T' P (.bool p8) Q (.bool p9) = .row [.int 1, cl S p.1.1 0, x, .bool false, cl S' p.2.1 0, x', .bool false, .int ((flt S C T S' C' T' p).1 : Nat), .int ((flt S C T S' C' T' p).2 : Nat), .bool false, .int 0]) := by
 have ok : Fo S C (Gw S C T) := Nx hR fun k hk => by rw [List.mem_singleton.1 hk]; exact M9 hR
 have W := Yj (v0 := v0) hR;rw [aN (h0 := W), h];dsimp +instances only [As, Au, Ah, Ai];rw [ifT (by rfl), ifT (by rfl), ifT (by rfl)]
 by_cases g : 2000 < (Gw S C T).length
 ·exact .inl ⟨g, ifT (by omega)⟩
 ·refine .inr ⟨by omega, ?_⟩
  have L := K3 (p8 := p8) (p9 := p9) (v0 := v0) (v0' := v0') (fl := (Gw S C T).isEmpty) hR hR' hC ok (by omega) (Gw S C T) [] [] rfl (Nat.le_refl _)
  rw [List.nil_append] at L;have fl := S3 (S := S) (C := C) (S' := S') (C' := C') (P := P) (Q := Q) (ks := Gw S C T);have O := YJ (v0 := v0) (v0' := v0') (w8 := Fr 0 0) (w9 := A3) (w11 := Fr 0 0) (w12 := A3) (b10 := true) (b13 := true) (i14 := 0) (i15 := 0) hR hR' (b := (Jm S C S' C' P Q (Gw S C T)).isEmpty) (by omega) (WD hR hR' hC ok)
  rw [ifF (by omega), EQ, show Kv A3 (.bool true) (Bk (Gw S C T)) (.bool (Gw S C T).isEmpty) (.int ((Gw S C T).length : Nat)) (.int 0) P Q v0 S C T v0' S' C' T' (.bool p8) (.bool p9) = _ from L]
  show match res S C T S' C' T' P Q with
   | (none, ps) => _
   | (some p, ps) => _
  have O : Xa S C S' C' T T' v0 v0' (Fr 0 0) A3 (.bool true) (Fr 0 0) A3 (.bool true) (.int 0) (.int 0) _ (res S C T S' C' T' P Q) := O;cases c : res S C T S' C' T' P Q with
  | mk a ps =>
   rw [c] at O;cases a with
   | none =>
    have O : _ = _ := O;show _ = _;rw [U4 (h0 := O) (h1 := rfl), ifF (by omega)]
    dsimp +instances only [As, Au, Ah, Ai];rw [ifT (by rfl)]
    cases decide (4000 < (ps.length : Int)) <;> rfl
   | some p =>
    obtain ⟨x, x', o1, o2, o3, o4, O⟩ := O;refine ⟨x, x', o1, o2, o3, o4, ?_⟩;rw [U4 (h0 := O) (h1 := rfl), ifF (by omega)]
    dsimp +instances only [As, Au, Ah, Ai];rw [ifT (by rfl), cond_false, decide_eq_false (by omega)]
end
end Ci
namespace Ci
open Go Go.AE
def idP (S : D) (i : Nat) : D := .slc (decide (i = 0)) ((List.range i).map fun (j : Nat) => .row [cl S j 0, cl S j 0])
def idQ (C : D) (i : Nat) : D := .slc (decide (i = 0)) ((List.range i).map fun (j : Nat) => .row [cl C j 0, cl C j 0, .int 0])
theorem D7 {S : D} {i : Nat} : len (idP S i) = i := by unfold idP len; simp [D.rows]
theorem Dh {C : D} {i : Nat} : len (idQ C i) = i := by unfold idQ len; simp [D.rows]
theorem G6 {S : D} {i j c : Nat} (h : j < i) : cl (idP S i) j c = ([cl S j 0, cl S j 0] : List D).getD c default := by
 show ((((List.range i).map fun (j : Nat) => D.row [cl S j 0, cl S j 0])[j]?).getD default).cells.getD c default = _
 rw [List.getElem?_map, List.getElem?_range h];rfl
theorem DQ {C : D} {i j c : Nat} (h : j < i) : cl (idQ C i) j c = ([cl C j 0, cl C j 0, .int 0] : List D).getD c default := by
 show ((((List.range i).map fun (j : Nat) => D.row [cl C j 0, cl C j 0, .int 0])[j]?).getD default).cells.getD c default = _
 rw [List.getElem?_map, List.getElem?_range h];rfl
theorem Yn {S : D} {i : Nat} : ad (idP S i) (.row [cl S i 0, cl S i 0]) = idP S (i + 1) := by
 show D.slc false (_ ++ _) = D.slc (decide (i + 1 = 0)) _;rw [List.range_succ, List.map_append, decide_eq_false (by omega)]
 rfl
theorem YV {C : D} {i : Nat} : ad (idQ C i) (.row [cl C i 0, cl C i 0, .int 0]) = idQ C (i + 1) := by
 show D.slc false (_ ++ _) = D.slc (decide (i + 1 = 0)) _;rw [List.range_succ, List.map_append, decide_eq_false (by omega)]
 rfl
theorem YC {S key : D} : fd (idP S (len S)) key = fd S key := by
 unfold fd;rw [D7];refine CE fun j _ hj => ?_
 show D.strEq (cl (idP S (len S)) j 0) key = _;rw [G6 (by omega)]
 rfl
section
variable [Ap]
variable {v0 S C T : D}
theorem bU (hs : Cg T) (hS : len S ≤ 8) (hT : len T ≤ 20) (hC : len C ≤ 5) : Ii v0 S C T = cond (rok v0 S C T) (.row [.int 1, idP S (len S), .bool (decide (len S = 0)), idQ C (len C), .bool (decide (len C = 0)), .int 0]) (.row [.int 1, A3, .bool true, A3, .bool true, .int 2]) := by
 have B := EB (F := fun j => OA C (.int (j : Nat)) (idP S (len S)) (.bool (decide (len S = 0))) (idQ C j) (.bool (decide (j = 0)))) (n := len C) (fun j hj => by
  show OA C (.int (j : Nat)) (idP S (len S)) (.bool (decide (len S = 0))) (idQ C j) (.bool (decide (j = 0))) = OA C (.int (j + 1 : Nat)) (idP S (len S)) (.bool (decide (len S = 0))) (idQ C (j + 1)) (.bool (decide (j + 1 = 0)));rw [bz, ifT (by omega), ifF (by omega), Dh, ifT (by omega), AZ (by omega), YV, decide_eq_false (show ¬ j + 1 = 0 by omega)])
 have A := EB (F := fun j => MQ S (.int (j : Nat)) v0 C T (idP S j) (.bool (decide (j = 0)))) (n := len S) (fun j hj => by
  show MQ S (.int (j : Nat)) v0 C T (idP S j) (.bool (decide (j = 0))) = MQ S (.int (j + 1 : Nat)) v0 C T (idP S (j + 1)) (.bool (decide (j + 1 = 0)));rw [fX, ifT (by omega), ifF (by omega), D7, ifT (by omega), AZ (by omega), Yn, decide_eq_false (show ¬ j + 1 = 0 by omega)])
 have R : MQ S (.int 0) v0 C T A3 (.bool true) = .row [.int 1, idP S (len S), .bool (decide (len S = 0)), idQ C (len C), .bool (decide (len C = 0)), .int 0] := by
  refine (show MQ S (.int 0) v0 C T A3 (.bool true) = MQ S (.int (len S : Nat)) v0 C T (idP S (len S)) (.bool (decide (len S = 0))) from A).trans ?_
  rw [fX, ifF (by omega)]
  refine (show OA C (.int 0) (idP S (len S)) (.bool (decide (len S = 0))) A3 (.bool true) = OA C (.int (len C : Nat)) (idP S (len S)) (.bool (decide (len S = 0))) (idQ C (len C)) (.bool (decide (len C = 0))) from B).trans ?_
  rw [bz, ifF (by omega)]
 rw [g7, OF, Ue (v2 := C) (by omega), Uy (v1 := S) (by omega), Vq hs (by omega) (by omega) (by omega)]
 dsimp +instances only [As, Au, Ah, Ai];simp only [decide_true, cond_true];rw [R];unfold rok N0 Nk Qu;cases nm v0
 ·rfl
 cases decide ((cond (decide (4 < (len C : Int))) 4 (fdG (Hy C) (len C) 0)) < 0)
 ·rfl
 cases decide ((cond (decide ((len S : Int) < 1)) 0 (cond (decide (24 < (len S : Int))) 24 (fdG (Hx S) (len S) 0))) < 0)
 ·rfl
 cases decide ((cond (decide (80 < (len T : Int))) 80 (fdG (Ff v0 S C T) (len T) 0)) < 0) <;> rfl
theorem Xr {l : D} (h : ∀ i : Nat, i < len l → fd l (cl l i 0) = i) {i j : Nat} (hj : j < i) (hi : i < len l) : D.strEq (cl l j 0) (cl l i 0) = false := by
 cases c : D.strEq (cl l j 0) (cl l i 0)
 ·rfl
 ·have a := Iz (p := fun k => D.strEq (cl l k 0) (cl l i 0)) (k := len l) (i := 0) (j := j) (by omega) (by omega) c
  have a : 0 ≤ fd l (cl l i 0) ∧ fd l (cl l i 0) ≤ j := a;have b := h i hi;omega
theorem Zl (hR : Rk S C T) (hr : rok v0 S C T = true) (hS : len S ≤ 8) : chk v0 S C T v0 S C T (idP S (len S)) (idQ C (len C)) = .row [.int 1, .int 0, .int 0] := by
 have hc := hR.c1
 have bp : fdG (Ih S S (idP S (len S))) (len (idP S (len S))) 0 = -1 := BI fun i _ hi => by
  rw [D7] at hi;have a := Gk (l := S) (i := i) (by omega)
  unfold Ih IG;rw [G6 (by omega), G6 (by omega)]
  have t : fdG (fun j : Nat => D.strEq (cl (idP S (len S)) j 0) (([cl S i 0, cl S i 0] : List D).getD 0 default)) i 0 = -1 := BI fun j _ hj => by
   rw [G6 (by omega)]
   exact Xr hR.sid (by omega) (by omega)
  rw [t];show (decide (fd S (cl S i 0) < 0) || (decide (fd S (cl S i 0) < 0) || _)) = false;rw [decide_eq_false (by omega)]
  rfl
 have bq : fdG (Iu C C (idQ C (len C))) (len (idQ C (len C))) 0 = -1 := BI fun i _ hi => by
  rw [Dh] at hi;have a := Gk (l := C) (i := i) (by omega)
  unfold Iu IG;rw [DQ (by omega), DQ (by omega), DQ (by omega)]
  have t : fdG (fun j : Nat => D.strEq (cl (idQ C (len C)) j 0) (([cl C i 0, cl C i 0, .int 0] : List D).getD 0 default)) i 0 = -1 := BI fun j _ hj => by
   rw [DQ (by omega)]
   exact Xr hR.cid (by omega) (by omega)
  rw [t];show (decide (fd C (cl C i 0) < 0) || ((!eqC (cl C i 0) 0 0 && decide (fd C (cl C i 0) < 0)) || _)) = false;rw [decide_eq_false (by omega)]
  cases eqC (cl C i 0) 0 0 <;> rfl
 unfold chk;rw [hr, cond_true, cond_true, ifF (show ¬ (24 : Int) < ((len (idP S (len S)) : Nat) : Int) by rw [D7]; omega), bp, ifT (by omega), ifF (show ¬ (4 : Int) < ((len (idQ C (len C)) : Nat) : Int) by rw [Dh]; omega), bq, ifT (by omega)]
theorem SU : Kt (idQ C (len C)) := fun i hi => by
 rw [Dh] at hi;rw [DQ hi];exact ⟨0, rfl⟩
theorem XA (hR : Rk S C T) {i : Nat} (h : i < len C) : pl C (idQ C (len C)) i = i := by
 unfold pl;rw [DQ h];exact hR.cid i h
theorem X2 (hR : Rk S C T) {k : Key} (hk : KOk S C k) {i : Nat} (h : i < len C) : pv C (idQ C (len C)) (xk C k) i = kc k i := by
 have c := hR.cid i h;have l := hR.lim i h;have v := hk.v0 i h;unfold pv;rw [DQ h, DQ h];show cond (decide (fd C (cl C i 0) < 0)) _ (IntKind.wrap .i64 (0 + kv (xk C k) (fd C (cl C i 0)).toNat)) = _;rw [c, ifF (by omega), NF hk, show ((i : Nat) : Int).toNat = i by omega, BD (by omega) (by omega)]
 omega
theorem XU (hR : Rk S C T) {k : Key} (hk : KOk S C k) {j : Nat} : ∀ {n : Nat}, n ≤ len C → vs C C (idQ C (len C)) (xk C k) j n = if j < n then kc k j else 0
 | 0, _ => by rw [if_neg (by omega)]; rfl
 | n + 1, h => by
  rw [MA, XA hR (by omega), XU hR hk (by omega)]
  by_cases c : (n : Int) = j
  ·have : n = j := by omega
   subst this;rw [if_pos c, X2 hR hk (by omega), if_pos (by omega)]
  ·rw [if_neg c];by_cases d : j < n
   ·rw [if_pos d, if_pos (by omega)]
   ·rw [if_neg d, if_neg (by omega)]
theorem cp (hR : Rk S C T) {k : Key} (hk : KOk S C k) : cvK S C S C (idP S (len S)) (idQ C (len C)) k = some k := by
 have s0 := hk.s0;have s1 := hk.s1;have i1 := hR.sid k.1.toNat (by omega)
 rw [show ((k.1.toNat : Nat) : Int) = k.1 by omega] at i1
 have bv : fdG (Jo C C (idQ C (len C)) (xk C k)) (len (idQ C (len C))) 0 = -1 := BI fun i _ hi => by
  rw [Dh] at hi;have v := hk.v0 i (by omega)
  unfold Jo;rw [X2 hR hk (by omega), XA hR (by omega), decide_eq_false (by omega), decide_eq_false (by omega)]
  rfl
 have vv : ∀ j, vs C C (idQ C (len C)) (xk C k) j (len (idQ C (len C))) = kc k j := fun j => by
  rw [Dh, XU hR hk (Nat.le_refl _)];by_cases c : j < len C
  ·rw [if_pos c]
  ·rw [if_neg c, hk.v1 j (by omega)]
 unfold cvK;rw [YC, i1, if_neg (by omega), bv, if_pos (by omega), vv, vv, vv, vv, show k.1 = ((k.1.toNat : Nat) : Int) by omega, G6 (by omega)]
 show some (fd S (cl S ((k.1.toNat : Nat) : Int) 0), _) = _;rw [show ((k.1.toNat : Nat) : Int) = k.1 by omega, i1]
 rfl
def Sw (ps : List PK) : Prop := ∀ p ∈ ps, p.1 = p.2
theorem SA (hR : Rk S C T) {ks : List Key} (h : Fo S C ks) : Sw (Jm S C S C (idP S (len S)) (idQ C (len C)) ks) := by
 intro p hp;obtain ⟨k, hk, e⟩ := List.mem_filterMap.1 hp;unfold Wk at e;rw [cp hR (h k hk)] at e;cases e;rfl
theorem T4 {s : Nat} : alk T s T s = true := by
 unfold alk;rw [decide_eq_true rfl, Bh, Bh];rfl
theorem QT {L : List Nat} : lk T T L L = none := List.find?_eq_none.2 fun s hs => by
 rw [List.any_eq_true.2 ⟨s, hs, T4⟩]
 decide
theorem Vs {p : PK} (h : p.1 = p.2) : flt S C T S C T p = (0, 0) := by
 unfold flt;rw [h, QT];show (match lk T T (prt T (enl S C T p.2) false) (prt T (enl S C T p.2) false) with | some s => (2, s) | none => _) = _
 rw [QT];show (if _ then _ else _) = _
 rw [if_neg (by omega), if_pos rfl]
def Uni (T : D) : Prop := ∀ i m : Nat, i < len T → m < len T → D.strEq (cl T i 0) (cl T m 0) = true → alk T i T m = true → i = m
theorem U6 (hU : Uni T) {p : PK} (h : p.1 = p.2) : Sw (bhd S C T S C T p) := by
 have key : ∀ i m, (i < len T ∧ en S C T p.1 i = true) → (m < len T ∧ en S C T p.2 m = true) → alk T i T m = true → (nxP S C T S C T p i m).1 = (nxP S C T S C T p i m).2 := fun i m hi hm ha => by
  have e1 := hi.2;have e2 := hm.2;unfold en at e1 e2;simp only [Bool.and_eq_true] at e1 e2;have e2' := e2.1;rw [← h, AN] at e2';have := hU i m hi.1 hm.1 (DC e1.1 e2') ha;subst this;unfold nxP;rw [h]
 intro q hq;unfold bhd at hq;rcases List.mem_append.1 hq with g | g
 ·obtain ⟨i, hi, g⟩ := List.mem_flatMap.1 g;obtain ⟨m, hm, rfl⟩ := List.mem_map.1 g;have hm := List.mem_filter.1 hm;exact key i m (Du i hi) (Du m hm.1) hm.2
 ·obtain ⟨m, hm, g⟩ := List.mem_flatMap.1 g;obtain ⟨i, hi, rfl⟩ := List.mem_map.1 g;have hi := List.mem_filter.1 hi;exact key i m (Du i hi.1) (Du m hm) hi.2
theorem Il : ∀ {l ps : List PK}, Sw l → Sw ps → Sw (l.foldl Bp ps)
 | [], ps => fun _ h => h
 | q :: l, ps => fun hl h => by
  rw [List.foldl_cons];refine Il (fun x hx => hl x (List.mem_cons_of_mem _ hx)) fun x hx => ?_
  unfold Bp at hx;split at hx
  ·exact h x hx
  ·rcases List.mem_append.1 hx with z | z
   ·exact h x z
   ·rw [List.mem_singleton.1 z];exact hl q List.mem_cons_self
theorem On (hU : Uni T) : ∀ {f i : Nat} {ps : List PK}, Sw ps → ∃ ps', srP S C T S C T f ps i = (none, ps')
 | 0, i, ps => fun _ => ⟨ps, rfl⟩
 | f + 1, i, ps => fun h => by
  rw [srP];cases hg : ps[i]? with
  | none => exact ⟨ps, rfl⟩
  | some p =>
   have hp := h p (List.mem_of_getElem? hg);show ∃ ps', (if (flt S C T S C T p).1 = 0 then _ else _) = _
   rw [Vs hp, if_pos rfl];exact On hU (Il (U6 hU hp) h)
theorem CP : (sl Lz 0).toInt = 1 := by rw [iu]; rfl
def Ez (T : D) (i k : Nat) : Bool := D.strEq (cl T i 0) (cl T k 0) && alk T i T k
theorem YB (hT : len T ≤ 20) {P Q : D} {p q : Bool} {i : Nat} (hi : i < len T) : Fl (.int (i : Nat)) (.int 0) v0 S C T P (.bool p) Q (.bool q) = cond (decide (fdG (Ez T i) i 0 < 0)) (Fh (.int (i + 1 : Nat)) v0 S C T P (.bool p) Q (.bool q)) (.row [.int 1, .bool true]) := by
 have L := Ek (F := fun k => Fl (.int (i : Nat)) (.int (k : Nat)) v0 S C T P (.bool p) Q (.bool q)) (n := i) (bad := Ez T i) (B := fun _ => .row [.int 1, .bool true]) (fun k hk => by
  show Fl (.int (i : Nat)) (.int (k : Nat)) v0 S C T P (.bool p) Q (.bool q) = cond _ _ (Fl (.int (i : Nat)) (.int (k + 1 : Nat)) v0 S C T P (.bool p) Q (.bool q));rw [Xf, ifT (by omega), ifF (by omega), ifT (by omega), ifF (by omega), ifT (by omega), AZ (by omega), ifT CP]
  unfold Ez alk;cases D.strEq (cl T i 0) (cl T k 0)
  ·rfl
  by_cases c : (cl T i 2).toInt = (cl T k 2).toInt
  ·rw [cond_true, ifT c, decide_eq_true c];cases D.strEq (cl T i 3) (cl T k 3)
   ·rfl
   cases D.strEq (cl T i 4) (cl T k 4) <;> rfl
  ·rw [cond_true, ifF c, decide_eq_false c];rfl)
 refine (show Fl (.int (i : Nat)) (.int 0) v0 S C T P (.bool p) Q (.bool q) = cond _ (Fl (.int (i : Nat)) (.int (i : Nat)) v0 S C T P (.bool p) Q (.bool q)) _ from L).trans ?_
 congr 1
 rw [Xf, ifF (by omega), AZ (by omega)]
theorem SO (hT : len T ≤ 20) {P Q : D} {p q : Bool} : Fh (.int 0) v0 S C T P (.bool p) Q (.bool q) = .row [.int 1, .bool true] ∨
  (Uni T ∧ Fh (.int 0) v0 S C T P (.bool p) Q (.bool q) = Fh (.int (len T : Nat)) v0 S C T P (.bool p) Q (.bool q)) := by
 have L := Ek (F := fun i => Fh (.int (i : Nat)) v0 S C T P (.bool p) Q (.bool q)) (n := len T) (bad := fun i => !decide (fdG (Ez T i) i 0 < 0)) (B := fun _ => .row [.int 1, .bool true]) (fun i hi => by
  show Fh (.int (i : Nat)) v0 S C T P (.bool p) Q (.bool q) = cond _ _ (Fh (.int (i + 1 : Nat)) v0 S C T P (.bool p) Q (.bool q));rw [Xo, ifT (by omega), YB hT hi]
  cases decide (fdG (Ez T i) i 0 < 0) <;> rfl)
 have L : Fh (.int 0) v0 S C T P (.bool p) Q (.bool q) = cond (decide (fdG (fun i => !decide (fdG (Ez T i) i 0 < 0)) (len T) 0 < 0)) (Fh (.int (len T : Nat)) v0 S C T P (.bool p) Q (.bool q)) (.row [.int 1, .bool true]) := L
 by_cases c : fdG (fun i => !decide (fdG (Ez T i) i 0 < 0)) (len T) 0 < 0
 ·rw [ifT c] at L;refine .inr ⟨?_, L⟩
  have no : ∀ i m : Nat, i < len T → m < i → Ez T i m = false := fun i m hi hm => by
   have a := DJ (p := fun i => !decide (fdG (Ez T i) i 0 < 0)) (k := len T) (i := 0) (j := i) (by omega) (.inr ⟨c, by omega⟩)
   have a : fdG (Ez T i) i 0 < 0 := by simpa using a
   exact DJ (p := Ez T i) (k := i) (i := 0) (j := m) (by omega) (.inr ⟨a, by omega⟩)
  intro i m hi hm h1 h2;rcases Nat.lt_trichotomy i m with g | g | g
  ·have := no m i hm g;unfold Ez at this;rw [AN, h1, OO, h2] at this;cases this
  ·exact g
  ·have := no i m hi g;unfold Ez at this;rw [h1, h2] at this;cases this
 ·rw [ifF c] at L;exact .inl L
theorem Tb (hT : Cg T) (hc : ∀ i : Nat, i < len C → ∃ m, cl C i 1 = .int m) (s : Int) : KM (.int s) (.int (len C : Nat)) v0 S C T = .row [.int 1, .bool true] := by
 rw [X0, ifF (by omega)]
 by_cases c1 : 8 < (len S : Int)
 ·rw [ifT c1, ifT CP]
 rw [ifF c1];by_cases c2 : 20 < (len T : Int)
 ·rw [ifT c2, ifT CP]
 rw [ifF c2];by_cases c3 : 5 < (len C : Int)
 ·rw [ifT c3, ifT CP]
 rw [ifF c3];by_cases c4 : 40 < s
 ·rw [ifT c4, ifT CP]
 rw [ifF c4, bU hT (by omega) (by omega) (by omega)]
 obtain ⟨a, e, h1, h2⟩ := Yx (v1 := S) (v2 := C) hT (by omega) (by omega) (by omega) v0
 rw [h1];cases h : rok v0 S C T
 ·rw [h] at h2;rw [cond_false];dsimp +instances only [As, Au, Ah, Ai];rw [ifT (by rfl), ifT (by rfl), ifF (dF h2), ifT (by rfl), ifT (by rfl), ifT (by rfl), ifT CP]
 rw [h] at h2;have hR := Y4 h hc hT (by omega) (by omega)
 have hc1 := hR.c1;rw [cond_true];dsimp +instances only [As, Au, Ah, Ai];rw [ifT (by rfl), ifT (by rfl), ifT (dT h2), ifT (by rfl), D7, ifT (by rfl), Dh, ifT (by rfl)]
 have A := EB (F := fun j => IJ (.int (j : Nat)) v0 S C T (idP S (len S)) (.bool (decide (len S = 0))) (idQ C (len C)) (.bool (decide (len C = 0)))) (n := len S) (fun j hj => by
  show IJ (.int (j : Nat)) v0 S C T (idP S (len S)) (.bool (decide (len S = 0))) (idQ C (len C)) (.bool (decide (len C = 0))) = IJ (.int (j + 1 : Nat)) v0 S C T (idP S (len S)) (.bool (decide (len S = 0))) (idQ C (len C)) (.bool (decide (len C = 0)));rw [XB, ifT (by omega), ifF (by omega), D7, ifT (by omega), G6 hj, G6 hj, AZ (by omega)]
  show cond (D.strEq (cl S j 0) (cl S j 0) && D.strEq (cl S j 0) (cl S j 0)) _ _ = _;rw [Bh];rfl)
 refine (show IJ (.int 0) v0 S C T (idP S (len S)) (.bool (decide (len S = 0))) (idQ C (len C)) (.bool (decide (len C = 0))) = IJ (.int (len S : Nat)) v0 S C T (idP S (len S)) (.bool (decide (len S = 0))) (idQ C (len C)) (.bool (decide (len C = 0))) from A).trans ?_
 rw [XB, ifF (by omega)]
 have B := EB (F := fun j => IqQ (.int (j : Nat)) v0 S C T (idP S (len S)) (.bool (decide (len S = 0))) (idQ C (len C)) (.bool (decide (len C = 0)))) (n := len C) (fun j hj => by
  show IqQ (.int (j : Nat)) v0 S C T (idP S (len S)) (.bool (decide (len S = 0))) (idQ C (len C)) (.bool (decide (len C = 0))) = IqQ (.int (j + 1 : Nat)) v0 S C T (idP S (len S)) (.bool (decide (len S = 0))) (idQ C (len C)) (.bool (decide (len C = 0)));rw [XO, ifT (by omega), ifF (by omega), Dh, ifT (by omega), DQ hj, DQ hj, DQ hj, AZ (by omega)]
  show cond (D.strEq (cl C j 0) (cl C j 0) && (D.strEq (cl C j 0) (cl C j 0) && decide ((0 : Int) = 0))) _ _ = _;rw [Bh, decide_eq_true rfl];rfl)
 refine (show IqQ (.int 0) v0 S C T (idP S (len S)) (.bool (decide (len S = 0))) (idQ C (len C)) (.bool (decide (len C = 0))) = IqQ (.int (len C : Nat)) v0 S C T (idP S (len S)) (.bool (decide (len S = 0))) (idQ C (len C)) (.bool (decide (len C = 0))) from B).trans ?_
 rw [XO, ifF (by omega)]
 rcases SO (v0 := v0) (S := S) (C := C) (T := T) (P := idP S (len S)) (Q := idQ C (len C)) (p := decide (len S = 0)) (q := decide (len C = 0)) (by omega) with g | ⟨hU, g⟩
 ·exact g
 have ck := Zl hR h (by omega)
 have hC := (YL (by rw [D7]; omega) (by rw [Dh]; omega) SU ck).2.2
 have h16 := YP (v0 := v0) (v1 := S) (v2 := C) (v3 := T) (v4 := v0) (v5 := S) (v6 := C) (v7 := T) (v8 := idP S (len S)) (v9 := idQ C (len C)) (p8 := decide (len S = 0)) (p9 := decide (len C = 0)) hT hT (by omega) (by omega) (by omega) (by omega) (by omega) (by omega) (by rw [D7]; omega) (by rw [Dh]; omega)
 have ok : Fo S C (Gw S C T) := Nx hR fun k hk => by rw [List.mem_singleton.1 hk]; exact M9 hR
 rw [g, Xo, ifF (by omega)]
 rcases Y2 hR hR hC (h16.trans ck) with ⟨_, w⟩ | ⟨_, w⟩
 ·rw [w];dsimp +instances only [As, Au, Ah, Ai];rw [ifT (by rfl), ifF (by decide), ifT (by rfl), ifT CP]
 ·obtain ⟨ps, e⟩ := On (S := S) (C := C) hU (f := 4000) (i := 0) (Il (SA hR ok) (ps := []) fun x hx => by cases hx)
  have e : res S C T S C T (idP S (len S)) (idQ C (len C)) = (none, ps) := e;rw [e] at w;have w : _ = _ := w;by_cases q : 4000 < (ps.length : Int)
  ·rw [w, ifT q];dsimp +instances only [As, Au, Ah, Ai];rw [ifT (by rfl), ifF (by decide), ifT (by rfl), ifT CP]
  ·rw [w, ifF q];dsimp +instances only [As, Au, Ah, Ai];rw [ifT (by rfl), ifT (by rfl), cond_true, ifT CP]
theorem Jx (hT : Cg T) (hc : ∀ i : Nat, i < len C → ∃ m, cl C i 1 = .int m) (hn : len C < 2000000) : ∀ (n j : Nat) (s : Int), j + n = len C → KM (.int s) (.int (j : Nat)) v0 S C T = .row [.int 1, .bool true]
 | 0, j, s => fun h => by
  rw [show j = len C by omega]
  exact Tb hT hc s
 | n + 1, j, s => fun h => by
  rw [X0, ifT (by omega), ifF (by omega), AZ (by omega)]
  by_cases c : (cl C j 1).toInt < 0
  ·rw [ifT c];exact Jx hT hc hn n (j + 1) _ (by omega)
  rw [ifF c];by_cases c2 : 100 < (cl C j 1).toInt
  ·rw [ifT c2];exact Jx hT hc hn n (j + 1) _ (by omega)
  ·rw [ifF c2];exact Jx hT hc hn n (j + 1) _ (by omega)
theorem law (hT : Cg T) (hc : ∀ i : Nat, i < len C → ∃ m, cl C i 1 = .int m) (hn : len C < 2000000) : Xk v0 S C T = .row [.int 1, .bool true] := by
 rw [bo];exact Jx hT hc hn (len C) 0 0 (by omega)
end
end Ci

