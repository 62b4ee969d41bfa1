/- What is proved: what the plain functions over data say, whose trees the text before writes out: the law ConvertReplaces answers true. Conditions: those that each theorem states. -/
import Derived.Test.YtpcdkfgmpekeeaaConvertReplacesPlainA
set_option linter.unusedVariables false
set_option linter.unusedSectionVars false
set_option linter.unusedSimpArgs false
namespace Ct
open Go Go.AE
def nxP (S C T S' C' T' : D) (p : PK) (i m : Nat) : PK := (nx S C T p.1 i, nx S' C' T' p.2 m)
def MQ (S C T S' C' T' : D) (p : PK) (i : Nat) (M : List Nat) : List PK := (M.filter fun m => alk T i T' m).map fun m => nxP S C T S' C' T' p i m
def Nj (S C T S' C' T' : D) (p : PK) (m : Nat) (L : List Nat) : List PK := (L.filter fun i => alk T i T' m).map fun i => nxP S C T S' C' T' p i m
def crT (S C T S' C' T' : D) (p : PK) (L M : List Nat) : List PK := L.flatMap fun i => MQ S C T S' C' T' p i M
def crF (S C T S' C' T' : D) (p : PK) (L M : List Nat) : List PK := M.flatMap fun m => Nj S C T S' C' T' p m L
def bhd (S C T S' C' T' : D) (p : PK) : List PK :=
 crT S C T S' C' T' p (prt T (enl S C T p.1) true) (prt T' (enl S' C' T' p.2) true) ++ crF S C T S' C' T' p (prt T (enl S C T p.1) false) (prt T' (enl S' C' T' p.2) false)
theorem Oi {S C T S' C' T' : D} {p : PK} {i : Nat} {M : List Nat} : (MQ S C T S' C' T' p i M).length ≤ M.length := by
 unfold MQ;rw [List.length_map];exact List.length_filter_le _ _
theorem Oh {S C T S' C' T' : D} {p : PK} {i : Nat} {M : List Nat} : (Nj S C T S' C' T' p i M).length ≤ M.length := by
 unfold Nj;rw [List.length_map];exact List.length_filter_le _ _
theorem NC {S C T S' C' T' : D} {p : PK} {M : List Nat} (hM : M.length ≤ 20) : ∀ {L : List Nat}, (crT S C T S' C' T' p L M).length ≤ 20 * L.length
 | [] => by simp [crT]
 | i :: L => by
  have a := NC (S := S) (C := C) (T := T) (S' := S') (C' := C') (T' := T') (p := p) hM (L := L);have b := Oi (S := S) (C := C) (T := T) (S' := S') (C' := C') (T' := T') (p := p) (i := i) (M := M);unfold crT at a ⊢;rw [List.flatMap_cons, List.length_append, List.length_cons];omega
theorem Rg {S C T S' C' T' : D} {p : PK} {L : List Nat} (hL : L.length ≤ 20) : ∀ {M : List Nat}, (crF S C T S' C' T' p L M).length ≤ 20 * M.length
 | [] => by simp [crF]
 | i :: M => by
  have a := Rg (S := S) (C := C) (T := T) (S' := S') (C' := C') (T' := T') (p := p) hL (M := M);have b := Oh (S := S) (C := C) (T := T) (S' := S') (C' := C') (T' := T') (p := p) (i := i) (M := L);unfold crF at a ⊢;rw [List.flatMap_cons, List.length_append, List.length_cons];omega
theorem Wa {S C T S' C' T' : D} (hR : Rk S C T) (hR' : Rk S' C' T') {p : PK} : (bhd S C T S' C' T' p).length ≤ 800 := by
 have a := BQ hR (k := p.1) (r := true);have b := BQ hR (k := p.1) (r := false);have c := BQ hR' (k := p.2) (r := true);have d := BQ hR' (k := p.2) (r := false);have x := NC (S := S) (C := C) (T := T) (S' := S') (C' := C') (T' := T') (p := p) c (L := prt T (enl S C T p.1) true);have y := Rg (S := S) (C := C) (T := T) (S' := S') (C' := C') (T' := T') (p := p) b (M := prt T' (enl S' C' T' p.2) false);unfold bhd;rw [List.length_append];omega
def POk (S C S' C' : D) (p : PK) : Prop := KOk S C p.1 ∧ KOk S' C' p.2
def QG (S C S' C' : D) (ps : List PK) : Prop := ∀ p ∈ ps, POk S C S' C' p
theorem TK {S C T S' C' T' : D} (hR : Rk S C T) (hR' : Rk S' C' T') {p : PK} (hp : POk S C S' C' p) {i m : Nat} (hi : i < len T ∧ en S C T p.1 i = true) (hm : m < len T' ∧ en S' C' T' p.2 m = true) : POk S C S' C' (nxP S C T S' C' T' p i m) :=
 ⟨GI hR hp.1 hi.1 hi.2, GI hR' hp.2 hm.1 hm.2⟩
theorem Zv {S C T S' C' T' : D} (hR : Rk S C T) (hR' : Rk S' C' T') {p : PK} (hp : POk S C S' C' p) : QG S C S' C' (bhd S C T S' C' T' p) := by
 intro q hq;unfold bhd at hq;rcases List.mem_append.1 hq with h | h
 ·obtain ⟨i, hi, h⟩ := List.mem_flatMap.1 h;obtain ⟨m, hm, rfl⟩ := List.mem_map.1 h;exact TK hR hR' hp (FA i hi) (FA m (List.mem_filter.1 hm).1)
 ·obtain ⟨m, hm, h⟩ := List.mem_flatMap.1 h;obtain ⟨i, hi, rfl⟩ := List.mem_map.1 h;exact TK hR hR' hp (FA i (List.mem_filter.1 hi).1) (FA m hm)
theorem Kb {S C S' C' : D} : ∀ {l ps : List PK}, QG S C S' C' l → QG S C S' C' ps → QG S C S' C' (l.foldl Bf ps)
 | [], ps => fun _ h => h
 | q :: l, ps => fun hl h => by
  rw [List.foldl_cons];refine Kb (fun x hx => hl x (List.mem_cons_of_mem _ hx)) fun x hx => ?_
  unfold Bf at hx;split at hx
  ·exact h x hx
  ·rcases List.mem_append.1 hx with z | z
   ·exact h x z
   ·rw [List.mem_singleton.1 z];exact hl q List.mem_cons_self
section
variable [An]
variable {v0 S C T v0' S' C' T' : D} {w8 w9 w11 w12 : D} {b10 b13 : Bool} {i14 i15 : Int}
theorem Jy (hR : Rk S C T) {k : Key} (hk : KOk S C k) {s : Nat} (hs : s < len T ∧ en S C T k s = true) : Fm (.int k.1) (.int k.2.1) (.int k.2.2.1) (.int k.2.2.2.1) (.int k.2.2.2.2) v0 S C T (.int (s : Nat)) = .row [.int 1, .int (nx S C T k s).1, .int (nx S C T k s).2.1, .int (nx S C T k s).2.2.1, .int (nx S C T k s).2.2.2.1, .int (nx S C T k s).2.2.2.2] := Pb hR hk hs.1 hs.2
theorem Qa (hR : Rk S C T) (hR' : Rk S' C' T') {p : PK} (hp : POk S C S' C' p) {s i n : Nat} (hs : s < len T ∧ en S C T p.1 s = true) {da db : D} {fa fb : Bool} {M : List Nat} (hM : ∀ m ∈ M, m < len T' ∧ en S' C' T' p.2 m = true) (hd : NL M db) (hMn : M.length < 1000) (hi : i < 100000) :
  ∀ (rem pre : List Nat) (ps : List PK), M = pre ++ rem → ps.length + rem.length < 1073741824 →
  OG db (.bool fb) (.int (s : Nat)) da (.bool fa) (.int (n : Nat)) (.int (i : Nat)) (.int (pre.length : Nat)) v0 S C T v0' S' C' T' w8 w9 (.bool b10) w11 w12 (.bool b13) (.int i14) (.int i15) (AL ps) (.bool (ps).isEmpty) (BB ps) (.int p.1.1) (.int p.1.2.1) (.int p.1.2.2.1) (.int p.1.2.2.2.1) (.int p.1.2.2.2.2) (.int p.2.1) (.int p.2.2.1) (.int p.2.2.2.1) (.int p.2.2.2.2.1) (.int p.2.2.2.2.2) = Mc db (.bool fb) da (.bool fa) (.int (n : Nat)) (.int (i + 1 : Nat)) v0 S C T v0' S' C' T' w8 w9 (.bool b10) w11 w12 (.bool b13) (.int i14) (.int i15) (AL ((MQ S C T S' C' T' p s rem).foldl Bf ps)) (.bool (((MQ S C T S' C' T' p s rem).foldl Bf ps)).isEmpty) (BB ((MQ S C T S' C' T' p s rem).foldl Bf ps)) (.int p.1.1) (.int p.1.2.1) (.int p.1.2.2.1) (.int p.1.2.2.2.1) (.int p.1.2.2.2.2) (.int p.2.1) (.int p.2.2.1) (.int p.2.2.2.1) (.int p.2.2.2.2.1) (.int p.2.2.2.2.2)
 | [], pre, ps => fun e hl => by
  have : M.length = pre.length := by rw [e]; simp
  rw [XN (h0 := rfl) (h1 := rfl) (h2 := rfl), hd.l, ifF (by omega), A9 (by omega)]
  rfl
 | m :: rem, pre, ps => fun e hl => by
  have hg := Gb e;have hp' : pre.length < M.length := by rw [e]; simp
  have hm := hM m (by rw [e]; simp)
  have e' : M = (pre ++ [m]) ++ rem := by rw [e]; simp
  have epl : (pre ++ [m]).length = pre.length + 1 := by simp
  have hll : (m :: rem).length = rem.length + 1 := rfl;have F1 := Jy (v0 := v0) hR hp.1 hs;have F0 : Fm (.int p.2.1) (.int p.2.2.1) (.int p.2.2.2.1) (.int p.2.2.2.2.1) (.int p.2.2.2.2.2) v0' S' C' T' (cl db (pre.length : Nat) 0) = .row [.int 1, (.int (nx S' C' T' p.2 m).1), (.int (nx S' C' T' p.2 m).2.1), (.int (nx S' C' T' p.2 m).2.2.1), (.int (nx S' C' T' p.2 m).2.2.2.1), (.int (nx S' C' T' p.2 m).2.2.2.2)] := by rw [hd.c _ _ hg]; exact Jy (v0 := v0') hR' hp.2 hm
  have F2 := Pj (ps := ps) (p := nxP S C T S' C' T' p s m) (by omega)
  have al := HJ (ps := ps) (p := nxP S C T S' C' T' p s m);rw [XN (h0 := F0) (h1 := F1) (h2 := F2), hd.l, ifT (by omega), ifF (by omega), ifF (by omega), ifT (by omega), hd.c _ _ hg, Ag, ifF (by omega), ifT (by omega), A9 (by omega)]
  show cond (alk T s T' m) _ _ = _;unfold MQ;cases q : alk T s T' m
  ·have ih := Qa (s := s) (i := i) (n := n) (da := da) (fa := fa) (fb := fb) hR hR' hp hs hM hd hMn hi rem (pre ++ [m]) ps e' (by omega)
   rw [epl] at ih;rw [List.filter_cons_of_neg (by simp [q])]
   exact ih
  ·have ih := Qa (s := s) (i := i) (n := n) (da := da) (fa := fa) (fb := fb) hR hR' hp hs hM hd hMn hi rem (pre ++ [m]) (Bf ps (nxP S C T S' C' T' p s m)) e' (by omega)
   rw [epl] at ih;rw [List.filter_cons_of_pos (by simp [q]), List.map_cons, List.foldl_cons]
   exact ih
theorem RV (hR : Rk S C T) (hR' : Rk S' C' T') {p : PK} (hp : POk S C S' C' p) {da db : D} {fa fb : Bool} {L M : List Nat} (hL : ∀ s ∈ L, s < len T ∧ en S C T p.1 s = true) (hM : ∀ m ∈ M, m < len T' ∧ en S' C' T' p.2 m = true) (hda : NL L da) (hdb : NL M db) (hLn : L.length < 1000) (hMn : M.length < 1000) :
  ∀ (rem pre : List Nat) (ps : List PK), L = pre ++ rem → ps.length + rem.length * M.length < 1073741824 →
  Mc db (.bool fb) da (.bool fa) (.int (L.length : Nat)) (.int (pre.length : Nat)) v0 S C T v0' S' C' T' w8 w9 (.bool b10) w11 w12 (.bool b13) (.int i14) (.int i15) (AL ps) (.bool (ps).isEmpty) (BB ps) (.int p.1.1) (.int p.1.2.1) (.int p.1.2.2.1) (.int p.1.2.2.2.1) (.int p.1.2.2.2.2) (.int p.2.1) (.int p.2.2.1) (.int p.2.2.2.1) (.int p.2.2.2.2.1) (.int p.2.2.2.2.2) = Mc db (.bool fb) da (.bool fa) (.int (L.length : Nat)) (.int (L.length : Nat)) v0 S C T v0' S' C' T' w8 w9 (.bool b10) w11 w12 (.bool b13) (.int i14) (.int i15) (AL ((crT S C T S' C' T' p rem M).foldl Bf ps)) (.bool (((crT S C T S' C' T' p rem M).foldl Bf ps)).isEmpty) (BB ((crT S C T S' C' T' p rem M).foldl Bf ps)) (.int p.1.1) (.int p.1.2.1) (.int p.1.2.2.1) (.int p.1.2.2.2.1) (.int p.1.2.2.2.2) (.int p.2.1) (.int p.2.2.1) (.int p.2.2.2.1) (.int p.2.2.2.2.1) (.int p.2.2.2.2.2)
 | [], pre, ps => fun e hl => by
  have : L.length = pre.length := by rw [e]; simp
  rw [this];rfl
 | s :: rem, pre, ps => fun e hl => by
  have hg := Gb e;have hp' : pre.length < L.length := by rw [e]; simp
  have hs := hL s (by rw [e]; simp)
  have e' : L = (pre ++ [s]) ++ rem := by rw [e]; simp
  have epl : (pre ++ [s]).length = pre.length + 1 := by simp
  have hll : (s :: rem).length * M.length = rem.length * M.length + M.length := by rw [List.length_cons, Nat.succ_mul]
  have rl := Oi (S := S) (C := C) (T := T) (S' := S') (C' := C') (T' := T') (p := p) (i := s) (M := M);have al := DQ (l := MQ S C T S' C' T' p s M) (ps := ps);have ih := RV (da := da) (db := db) (fa := fa) (fb := fb) hR hR' hp hL hM hda hdb hLn hMn rem (pre ++ [s]) ((MQ S C T S' C' T' p s M).foldl Bf ps) e' (by omega)
  rw [epl] at ih;have I := Qa (s := s) (i := pre.length) (n := L.length) (da := da) (fa := fa) (fb := fb) (w8 := w8) (w9 := w9) (w11 := w11) (w12 := w12) (b10 := b10) (b13 := b13) (i14 := i14) (i15 := i15) (v0 := v0) (v0' := v0') hR hR' hp hs hM hdb hMn (by omega) M [] ps rfl (by omega)
  rw [Yj (h0 := rfl), ifT (by omega), ifF (by omega), hda.l, ifT (by omega), hda.c _ _ hg]
  refine I.trans (ih.trans ?_);unfold crT;rw [List.flatMap_cons, List.foldl_append]
theorem No (hR : Rk S C T) (hR' : Rk S' C' T') {p : PK} (hp : POk S C S' C' p) {s i n : Nat} (hs : s < len T' ∧ en S' C' T' p.2 s = true) {da db : D} {fa fb : Bool} {L : List Nat} (hL : ∀ m ∈ L, m < len T ∧ en S C T p.1 m = true) (hd : NL L da) (hLn : L.length < 1000) (hi : i < 100000) :
  ∀ (rem pre : List Nat) (ps : List PK), L = pre ++ rem → ps.length + rem.length < 1073741824 →
  Od da (.bool fa) (.int (s : Nat)) db (.bool fb) (.int (n : Nat)) (.int (i : Nat)) (.int (pre.length : Nat)) v0 S C T v0' S' C' T' w8 w9 (.bool b10) w11 w12 (.bool b13) (.int i14) (.int i15) (AL ps) (.bool (ps).isEmpty) (BB ps) (.int p.1.1) (.int p.1.2.1) (.int p.1.2.2.1) (.int p.1.2.2.2.1) (.int p.1.2.2.2.2) (.int p.2.1) (.int p.2.2.1) (.int p.2.2.2.1) (.int p.2.2.2.2.1) (.int p.2.2.2.2.2) = Oo da (.bool fa) db (.bool fb) (.int (n : Nat)) (.int (i + 1 : Nat)) v0 S C T v0' S' C' T' w8 w9 (.bool b10) w11 w12 (.bool b13) (.int i14) (.int i15) (AL ((Nj S C T S' C' T' p s rem).foldl Bf ps)) (.bool (((Nj S C T S' C' T' p s rem).foldl Bf ps)).isEmpty) (BB ((Nj S C T S' C' T' p s rem).foldl Bf ps)) (.int p.1.1) (.int p.1.2.1) (.int p.1.2.2.1) (.int p.1.2.2.2.1) (.int p.1.2.2.2.2) (.int p.2.1) (.int p.2.2.1) (.int p.2.2.2.1) (.int p.2.2.2.2.1) (.int p.2.2.2.2.2)
 | [], pre, ps => fun e hl => by
  have : L.length = pre.length := by rw [e]; simp
  rw [Ym (h0 := rfl) (h1 := rfl) (h2 := rfl), hd.l, ifF (by omega), A9 (by omega)]
  rfl
 | m :: rem, pre, ps => fun e hl => by
  have hg := Gb e;have hp' : pre.length < L.length := by rw [e]; simp
  have hm := hL m (by rw [e]; simp)
  have e' : L = (pre ++ [m]) ++ rem := by rw [e]; simp
  have epl : (pre ++ [m]).length = pre.length + 1 := by simp
  have hll : (m :: rem).length = rem.length + 1 := rfl;have F1 := Jy (v0 := v0') hR' hp.2 hs;have F0 : Fm (.int p.1.1) (.int p.1.2.1) (.int p.1.2.2.1) (.int p.1.2.2.2.1) (.int p.1.2.2.2.2) v0 S C T (cl da (pre.length : Nat) 0) = .row [.int 1, (.int (nx S C T p.1 m).1), (.int (nx S C T p.1 m).2.1), (.int (nx S C T p.1 m).2.2.1), (.int (nx S C T p.1 m).2.2.2.1), (.int (nx S C T p.1 m).2.2.2.2)] := by rw [hd.c _ _ hg]; exact Jy (v0 := v0) hR hp.1 hm
  have F2 := Pj (ps := ps) (p := nxP S C T S' C' T' p m s) (by omega)
  have al := HJ (ps := ps) (p := nxP S C T S' C' T' p m s);rw [Ym (h0 := F0) (h1 := F1) (h2 := F2), hd.l, ifT (by omega), ifF (by omega), hd.c _ _ hg, Ag, ifF (by omega), ifT (by omega), ifF (by omega), ifT (by omega), A9 (by omega)]
  show cond (alk T m T' s) _ _ = _;unfold Nj;cases q : alk T m T' s
  ·have ih := No (s := s) (i := i) (n := n) (db := db) (fa := fa) (fb := fb) hR hR' hp hs hL hd hLn hi rem (pre ++ [m]) ps e' (by omega)
   rw [epl] at ih;rw [List.filter_cons_of_neg (by simp [q])]
   exact ih
  ·have ih := No (s := s) (i := i) (n := n) (db := db) (fa := fa) (fb := fb) hR hR' hp hs hL hd hLn hi rem (pre ++ [m]) (Bf ps (nxP S C T S' C' T' p m s)) e' (by omega)
   rw [epl] at ih;rw [List.filter_cons_of_pos (by simp [q]), List.map_cons, List.foldl_cons]
   exact ih
theorem N0 (hR : Rk S C T) (hR' : Rk S' C' T') {p : PK} (hp : POk S C S' C' p) {da db : D} {fa fb : Bool} {L M : List Nat} (hL : ∀ s ∈ L, s < len T ∧ en S C T p.1 s = true) (hM : ∀ m ∈ M, m < len T' ∧ en S' C' T' p.2 m = true) (hda : NL L da) (hdb : NL M db) (hLn : L.length < 1000) (hMn : M.length < 1000) :
  ∀ (rem pre : List Nat) (ps : List PK), M = pre ++ rem → ps.length + rem.length * L.length < 1073741824 →
  Oo da (.bool fa) db (.bool fb) (.int (M.length : Nat)) (.int (pre.length : Nat)) v0 S C T v0' S' C' T' w8 w9 (.bool b10) w11 w12 (.bool b13) (.int i14) (.int i15) (AL ps) (.bool (ps).isEmpty) (BB ps) (.int p.1.1) (.int p.1.2.1) (.int p.1.2.2.1) (.int p.1.2.2.2.1) (.int p.1.2.2.2.2) (.int p.2.1) (.int p.2.2.1) (.int p.2.2.2.1) (.int p.2.2.2.2.1) (.int p.2.2.2.2.2) = .row [.int 1, .bool false, v0, S, C, T, v0', S', C', T', w8, w9, (.bool b10), w11, w12, (.bool b13), (.int i14), (.int i15), (AL ((crF S C T S' C' T' p L rem).foldl Bf ps)), (.bool (((crF S C T S' C' T' p L rem).foldl Bf ps)).isEmpty), (BB ((crF S C T S' C' T' p L rem).foldl Bf ps))]
 | [], pre, ps => fun e hl => by
  have : M.length = pre.length := by rw [e]; simp
  rw [Yc, ifF (by omega)]
  rfl
 | s :: rem, pre, ps => fun e hl => by
  have hg := Gb e;have hp' : pre.length < M.length := by rw [e]; simp
  have hs := hM s (by rw [e]; simp)
  have e' : M = (pre ++ [s]) ++ rem := by rw [e]; simp
  have epl : (pre ++ [s]).length = pre.length + 1 := by simp
  have hll : (s :: rem).length * L.length = rem.length * L.length + L.length := by rw [List.length_cons, Nat.succ_mul]
  have rl := Oh (S := S) (C := C) (T := T) (S' := S') (C' := C') (T' := T') (p := p) (i := s) (M := L);have al := DQ (l := Nj S C T S' C' T' p s L) (ps := ps);have ih := N0 (da := da) (db := db) (fa := fa) (fb := fb) hR hR' hp hL hM hda hdb hLn hMn rem (pre ++ [s]) ((Nj S C T S' C' T' p s L).foldl Bf ps) e' (by omega)
  rw [epl] at ih;have I := No (s := s) (i := pre.length) (n := M.length) (db := db) (fa := fa) (fb := fb) (w8 := w8) (w9 := w9) (w11 := w11) (w12 := w12) (b10 := b10) (b13 := b13) (i14 := i14) (i15 := i15) (v0 := v0) (v0' := v0') hR hR' hp hs hL hda hLn (by omega) L [] ps rfl (by omega)
  rw [Yc, ifT (by omega), ifF (by omega), hdb.l, ifT (by omega), hdb.c _ _ hg]
  refine I.trans (ih.trans ?_);unfold crF;rw [List.flatMap_cons, List.foldl_append]
theorem Y4 (hR : Rk S C T) (hR' : Rk S' C' T') {p : PK} (hp : POk S C S' C' p) {ps : List PK} (hl : ps.length < 100000000) (hf : (flt S C T S' C' T' p).1 = 0) :
  LZ v0 S C T v0' S' C' T' w8 w9 (.bool b10) w11 w12 (.bool b13) (.int i14) (.int i15) (.int p.1.1) (.int p.1.2.1) (.int p.1.2.2.1) (.int p.1.2.2.2.1) (.int p.1.2.2.2.2) (.int p.2.1) (.int p.2.2.1) (.int p.2.2.2.1) (.int p.2.2.2.2.1) (.int p.2.2.2.2.2) (AL ps) (.bool (ps).isEmpty) (BB ps) = .row [.int 1, .bool false, v0, S, C, T, v0', S', C', T', w8, w9, (.bool b10), w11, w12, (.bool b13), (.int i14), (.int i15), (AL ((bhd S C T S' C' T' p).foldl Bf ps)), (.bool (((bhd S C T S' C' T' p).foldl Bf ps)).isEmpty), (BB ((bhd S C T S' C' T' p).foldl Bf ps))] := by
 obtain ⟨da, db, fa, fb, a1, a2, a3⟩ := K9 (v0 := v0) (v0' := v0') (w8 := w8) (w9 := w9) (w11 := w11) (w12 := w12) (b10 := b10) (b13 := b13) (i14 := i14) (i15 := i15) hR hR' hp.1 hp.2 (r := true);obtain ⟨dc, dd, fc, fd, c1, c2, c3⟩ := K9 (v0 := v0) (v0' := v0') (w8 := w8) (w9 := w9) (w11 := w11) (w12 := w12) (b10 := b10) (b13 := b13) (i14 := i14) (i15 := i15) hR hR' hp.1 hp.2 (r := false);have m1 := fun r => BQ hR (k := p.1) (r := r)
 have m2 := fun r => BQ hR' (k := p.2) (r := r)
 have x1 := m1 true;have x2 := m2 true;have x3 := m1 false;have x4 := m2 false;have y1 : (prt T (enl S C T p.1) true).length * (prt T' (enl S' C' T' p.2) true).length ≤ 20 * 20 := Nat.mul_le_mul x1 x2;have y2 : (prt T' (enl S' C' T' p.2) false).length * (prt T (enl S C T p.1) false).length ≤ 20 * 20 := Nat.mul_le_mul x4 x3;have cl1 := NC (S := S) (C := C) (T := T) (S' := S') (C' := C') (T' := T') (p := p) x2 (L := prt T (enl S C T p.1) true);have al1 := DQ (l := crT S C T S' C' T' p (prt T (enl S C T p.1) true) (prt T' (enl S' C' T' p.2) true)) (ps := ps);have A := RV (da := da) (db := db) (fa := fa) (fb := fb) (w8 := w8) (w9 := w9) (w11 := w11) (w12 := w12) (b10 := b10) (b13 := b13) (i14 := i14) (i15 := i15) (v0 := v0) (v0' := v0') hR hR' hp (L := prt T (enl S C T p.1) true) (M := prt T' (enl S' C' T' p.2) true) FA FA a1 a2 (by omega) (by omega) (prt T (enl S C T p.1) true) [] ps rfl (by omega)
 have B := N0 (da := dc) (db := dd) (fa := fc) (fb := fd) (w8 := w8) (w9 := w9) (w11 := w11) (w12 := w12) (b10 := b10) (b13 := b13) (i14 := i14) (i15 := i15) (v0 := v0) (v0' := v0') hR hR' hp (L := prt T (enl S C T p.1) false) (M := prt T' (enl S' C' T' p.2) false) FA FA c1 c2 (by omega) (by omega) (prt T' (enl S' C' T' p.2) false) [] ((crT S C T S' C' T' p (prt T (enl S C T p.1) true) (prt T' (enl S' C' T' p.2) true)).foldl Bf ps) rfl (by omega)
 rw [Ya (h0 := a3) (h1 := Ua hR hR' hp.1 hp.2), hf];dsimp +instances only [As, Au, Ag, Ai];rw [ifT (by rfl), ifT (by rfl), ifT (by rfl), a1.l]
 refine A.trans ?_;rw [Yj (h0 := c3), ifF (by omega)]
 dsimp +instances only [As, Au, Ag, Ai];rw [ifT (by rfl), c2.l]
 refine B.trans ?_;unfold bhd;rw [List.foldl_append]
theorem Xe (hR : Rk S C T) (hR' : Rk S' C' T') {p : PK} (hp : POk S C S' C' p) {ps : List PK} (hf : (flt S C T S' C' T' p).1 ≠ 0) :
  ∃ x x', Cf S C p.1 (cl S p.1.1 0) x ∧ Cf S' C' p.2 (cl S' p.2.1 0) x' ∧
  LZ v0 S C T v0' S' C' T' w8 w9 (.bool b10) w11 w12 (.bool b13) (.int i14) (.int i15) (.int p.1.1) (.int p.1.2.1) (.int p.1.2.2.1) (.int p.1.2.2.2.1) (.int p.1.2.2.2.2) (.int p.2.1) (.int p.2.2.1) (.int p.2.2.2.1) (.int p.2.2.2.2.1) (.int p.2.2.2.2.2) (AL ps) (.bool (ps).isEmpty) (BB ps) = .row [.int 1, .bool true, v0, S, C, T, v0', S', C', T', cl S p.1.1 0, x, .bool false, cl S' p.2.1 0, x', .bool false, .int ((flt S C T S' C' T' p).1 : Nat), .int ((flt S C T S' C' T' p).2 : Nat), (AL ps), (.bool (ps).isEmpty), (BB ps)] := by
 obtain ⟨da, db, fa, fb, a1, a2, a3⟩ := K9 (v0 := v0) (v0' := v0') (w8 := w8) (w9 := w9) (w11 := w11) (w12 := w12) (b10 := b10) (b13 := b13) (i14 := i14) (i15 := i15) hR hR' hp.1 hp.2 (r := true);obtain ⟨x, x1, x2⟩ := UU (v0 := v0) hR hp.1;obtain ⟨y, y1, y2⟩ := UU (v0 := v0') hR' hp.2;refine ⟨x, y, x2, y2, ?_⟩;rw [Ya (h0 := a3) (h1 := Ua hR hR' hp.1 hp.2)];dsimp +instances only [As, Au, Ag, Ai];rw [ifT (by rfl), ifF (by omega), x1, y1]
 rfl
end
end Ct
namespace Ct
open Go Go.AE
def srP (S C T S' C' T' : D) : Nat → List PK → Nat → Option PK × List PK
 | 0, ps, _ => (none, ps)
 | f + 1, ps, i => match ps[i]? with
  | none => (none, ps)
  | some p => if (flt S C T S' C' T' p).1 = 0 then srP S C T S' C' T' f ((bhd S C T S' C' T' p).foldl Bf ps) (i + 1) else (some p, ps)
theorem T1 {ps : List PK} {p : PK} : ad (AL ps) (.row (C5 p)) = AL (ps ++ [p]) := by
 unfold AL ad;simp [D.rows]
def Xp (S C S' C' : D) (T T' : D) (v0 v0' : D) (w8 w9 w10 w11 w12 w13 w14 w15 : D) (d : D) : Option PK × List PK → Prop
 | (none, ps) => d = .row [.int 1, AL ps, .bool ps.isEmpty, .bool (decide (4000 < (ps.length : Int))), v0, S, C, T, v0', S', C', T', w8, w9, w10, w11, w12, w13, w14, w15]
 | (some p, ps) => ∃ x x', POk S C S' C' p ∧ Cf S C p.1 (cl S p.1.1 0) x ∧ Cf S' C' p.2 (cl S' p.2.1 0) x' ∧ (flt S C T S' C' T' p).1 ≠ 0 ∧
  d = .row [.int 1, AL ps, .bool ps.isEmpty, .bool false, v0, S, C, T, v0', S', C', T', cl S p.1.1 0, x, .bool false, cl S' p.2.1 0, x', .bool false, .int ((flt S C T S' C' T' p).1 : Nat), .int ((flt S C T S' C' T' p).2 : Nat)]
section
variable [An]
variable {v0 S C T v0' S' C' T' : D} {w8 w9 w11 w12 : D} {b10 b13 : Bool} {i14 i15 : Int}
theorem N9 (hR : Rk S C T) (hR' : Rk S' C' T') {w : D} : ∀ {f i : Nat} {ps : List PK}, i + f = 4000 → ps.length ≤ 10000 + 800 * i → QG S C S' C' ps →
  Xp S C S' C' T T' v0 v0' w8 w9 (.bool b10) w11 w12 (.bool b13) (.int i14) (.int i15) (NJ (.int 4000) (.int (i : Nat)) w v0 S C T v0' S' C' T' w8 w9 (.bool b10) w11 w12 (.bool b13) (.int i14) (.int i15) (AL ps) (.bool (ps).isEmpty) (BB ps)) (srP S C T S' C' T' f ps i)
 | 0, i, ps => fun h hl ho => by
  show _ = _;rw [Ro (h0 := rfl), CN];by_cases c : i < ps.length
  ·rw [ifT (by omega), ifF (by omega)]
  ·rw [ifF (by omega)]
 | f + 1, i, ps => fun h hl ho => by
  rw [srP];by_cases c : i < ps.length
  ·have hg : ps[i]? = some ps[i] := List.getElem?_eq_getElem c;have hp := ho _ (List.getElem_mem c);have hb := Wa hR hR' (p := ps[i]);have al := DQ (l := bhd S C T S' C' T' ps[i]) (ps := ps)
   have F0 : ∀ X, LZ v0 S C T v0' S' C' T' w8 w9 (.bool b10) w11 w12 (.bool b13) (.int i14) (.int i15) (.int ps[i].1.1) (.int ps[i].1.2.1) (.int ps[i].1.2.2.1) (.int ps[i].1.2.2.2.1) (.int ps[i].1.2.2.2.2) (.int ps[i].2.1) (.int ps[i].2.2.1) (.int ps[i].2.2.2.1) (.int ps[i].2.2.2.2.1) (.int ps[i].2.2.2.2.2) (AL ps) (.bool (ps).isEmpty) (BB ps) = X → LZ v0 S C T v0' S' C' T' w8 w9 (.bool b10) w11 w12 (.bool b13) (.int i14) (.int i15) (cl (AL ps) (i : Nat) 0) (cl (AL ps) (i : Nat) 1) (cl (AL ps) (i : Nat) 2) (cl (AL ps) (i : Nat) 3) (cl (AL ps) (i : Nat) 4) (cl (AL ps) (i : Nat) 5) (cl (AL ps) (i : Nat) 6) (cl (AL ps) (i : Nat) 7) (cl (AL ps) (i : Nat) 8) (cl (AL ps) (i : Nat) 9) (AL ps) (.bool (ps).isEmpty) (BB ps) = X := fun X h => by
    rw [A0 hg, A0 hg, A0 hg, A0 hg, A0 hg, A0 hg, A0 hg, A0 hg, A0 hg, A0 hg];exact h
   rw [hg];show Xp S C S' C' T T' v0 v0' w8 w9 (.bool b10) w11 w12 (.bool b13) (.int i14) (.int i15) _ (if (flt S C T S' C' T' ps[i]).1 = 0 then srP S C T S' C' T' f ((bhd S C T S' C' T' ps[i]).foldl Bf ps) (i + 1) else (some ps[i], ps))
   by_cases q : (flt S C T S' C' T' ps[i]).1 = 0
   ·have N := F0 _ (Y4 (v0 := v0) (v0' := v0') (w8 := w8) (w9 := w9) (w11 := w11) (w12 := w12) (b10 := b10) (b13 := b13) (i14 := i14) (i15 := i15) hR hR' hp (by omega) q)
    rw [if_pos q, Ro (h0 := N), CN, ifT (by omega), ifT (by omega), ifF (by omega)]
    dsimp +instances only [As, Au, Ag, Ai];rw [ifT (by rfl), cond_false, A9 (by omega)]
    exact N9 hR hR' (by omega) (by omega) (Kb (Zv hR hR' hp) ho)
   ·obtain ⟨x, x', x1, x2, x3⟩ := Xe (v0 := v0) (v0' := v0') (w8 := w8) (w9 := w9) (w11 := w11) (w12 := w12) (b10 := b10) (b13 := b13) (i14 := i14) (i15 := i15) hR hR' hp (ps := ps) q;rw [if_neg q, Ro (h0 := F0 _ x3), CN, ifT (by omega), ifT (by omega), ifF (by omega)]
    dsimp +instances only [As, Au, Ag, Ai];rw [ifT (by rfl), cond_true]
    exact ⟨x, x', hp, x1, x2, q, rfl⟩
  ·rw [List.getElem?_eq_none (by omega)]
   show _ = _;rw [Ro (h0 := rfl), CN, ifF (by omega)]
theorem LS {fs : List PK} {b : Bool} (hn : fs.length < 10000) : ∀ (rem pre : List PK) (ps : List PK), fs = pre ++ rem → ps.length ≤ pre.length →
  NX (.int 4000) (AL fs) (.bool b) (.int (pre.length : Nat)) v0 S C T v0' S' C' T' w8 w9 (.bool b10) w11 w12 (.bool b13) (.int i14) (.int i15) (AL ps) (.bool (ps).isEmpty) (BB ps) = NJ (.int 4000) (.int 0) (AL fs) v0 S C T v0' S' C' T' w8 w9 (.bool b10) w11 w12 (.bool b13) (.int i14) (.int i15) (AL (rem.foldl Bf ps)) (.bool ((rem.foldl Bf ps)).isEmpty) (BB (rem.foldl Bf ps))
 | [], pre, ps => fun e hl => by
  have : fs.length = pre.length := by rw [e]; simp
  rw [Yo, CN, ifF (by omega)]
  rfl
 | q :: rem, pre, ps => fun e hl => by
  have hg : fs[pre.length]? = some q := by rw [e]; simp
  have hp : pre.length < fs.length := by rw [e]; simp
  have e' : fs = (pre ++ [q]) ++ rem := by rw [e]; simp
  have epl : (pre ++ [q]).length = pre.length + 1 := by simp
  have al := HJ (ps := ps) (p := q);have F := Pj (ps := ps) (p := q) (by omega)
  have ih := LS (b := b) hn rem (pre ++ [q]) (Bf ps q) e' (by omega)
  rw [epl] at ih;rw [Yo, CN, ifT (by omega), ifF (by omega), A0 hg, A0 hg, A0 hg, A0 hg, A0 hg, A0 hg, A0 hg, A0 hg, A0 hg, A0 hg, A9 (by omega)]
  have F : HX (AL ps) (.bool (ps).isEmpty) (BB ps) ((C5 q).getD 0 default) ((C5 q).getD 1 default) ((C5 q).getD 2 default) ((C5 q).getD 3 default) ((C5 q).getD 4 default) ((C5 q).getD 5 default) ((C5 q).getD 6 default) ((C5 q).getD 7 default) ((C5 q).getD 8 default) ((C5 q).getD 9 default) = .row [.int 1, AL (Bf ps q), .bool (Bf ps q).isEmpty, BB (Bf ps q)] := F;rw [F];dsimp +instances only [As, Au, Ag, Ai];rw [ifT (by rfl)]
  exact ih
theorem YB (hR : Rk S C T) (hR' : Rk S' C' T') {fs : List PK} {b : Bool} (hn : fs.length < 10000) (ho : QG S C S' C' fs) :
  Xp S C S' C' T T' v0 v0' w8 w9 (.bool b10) w11 w12 (.bool b13) (.int i14) (.int i15) (Vn (AL fs) (.bool b) (.int 4000) v0 S C T v0' S' C' T' w8 w9 (.bool b10) w11 w12 (.bool b13) (.int i14) (.int i15)) (srP S C T S' C' T' 4000 (fs.foldl Bf []) 0) := by
 have al := DQ (l := fs) (ps := []);have F := LS (w8 := w8) (w9 := w9) (w11 := w11) (w12 := w12) (b10 := b10) (b13 := b13) (i14 := i14) (i15 := i15) (v0 := v0) (v0' := v0') (S := S) (C := C) (T := T) (S' := S') (C' := C') (T' := T') (b := b) hn fs [] [] rfl (Nat.le_refl _);rw [fe, show NX (.int 4000) (AL fs) (.bool b) (.int 0) v0 S C T v0' S' C' T' w8 w9 (.bool b10) w11 w12 (.bool b13) (.int i14) (.int i15) AT (.bool true) Ax = _ from F]
 simp only [List.length_nil, Nat.zero_add] at al;exact N9 hR hR' (i := 0) (by omega) (by omega) (Kb ho fun x hx => by cases hx)
end
end Ct
namespace Ct
open Go Go.AE
structure RP (S C S' C' : D) (ps : List PK) (d : D) : Prop where
 l : len d = ps.length
 c : ∀ (i : Nat) (p : PK), ps[i]? = some p → Cf S C p.1 (cl d i 0) (cl d i 1) ∧ Cf S' C' p.2 (cl d i 2) (cl d i 3)
theorem RP.ad {S C S' C' : D} {ps : List PK} {d t x t' x' : D} {p : PK} (h : RP S C S' C' ps d) (hx : Cf S C p.1 t x) (hx' : Cf S' C' p.2 t' x') : RP S C S' C' (ps ++ [p]) (ad d (.row [t, x, t', x'])) := by
 refine ⟨by rw [AR, h.l]; simp, fun i k' hi => ?_⟩
 rw [IE (by omega), IE (by omega), IE (by omega), IE (by omega), h.l]
 by_cases c : i < ps.length
 ·rw [List.getElem?_append_left c] at hi;rw [if_neg (by omega), if_neg (by omega), if_neg (by omega), if_neg (by omega)]
  exact h.c i k' hi
 ·have hlt : i < (ps ++ [p]).length := by
   rcases Nat.lt_or_ge i (ps ++ [p]).length with q | q
   ·exact q
   ·rw [List.getElem?_eq_none q] at hi;cases hi
  simp at hlt;have : i = ps.length := by omega
  subst this;simp at hi;subst hi;rw [if_pos rfl, if_pos rfl, if_pos rfl, if_pos rfl];exact ⟨hx, hx'⟩
section
variable [An]
variable {v0 S C T v0' S' C' T' : D}
end
end Ct
namespace Ct
open Go Go.AE
structure Ck (S C S' C' P Q : D) : Prop where
 np : len P ≤ 30
 nq : len Q ≤ 8
 q : KI Q
 tp : ∀ i, i < len P → My P i = false
 tq : ∀ i, i < len Q → My Q i = false
 sp : ∀ i, i < len P → 0 ≤ fd S' (cl P i 1)
 cq : ∀ i, i < len Q → 0 ≤ pl C' Q i
theorem Zl [An] {v0 S C T v0' S' C' T' P Q : D} {a : Int} (hp : len P ≤ 30) (hq : len Q ≤ 8) (hQ : KI Q) (h : chk v0 S C T v0' S' C' T' P Q = .row [.int 1, .int a, .int 0]) : rok v0 S C T = true ∧ rok v0' S' C' T' = true ∧ Ck S C S' C' P Q := by
 unfold chk at h;cases r1 : rok v0 S C T
 ·rw [r1] at h; cases h
 cases r2 : rok v0' S' C' T'
 ·rw [r1, r2] at h; cases h
 rw [r1, r2, cond_true, cond_true] at h;by_cases c1 : 24 < (len P : Int)
 ·rw [ifT c1] at h; cases h
 rw [ifF c1] at h;by_cases c2 : fdG (Jm S S' P) (len P) 0 < 0;rotate_left
 ·rw [ifF c2] at h; cases h
 rw [ifT c2] at h;by_cases c3 : 4 < (len Q : Int)
 ·rw [ifT c3] at h; cases h
 rw [ifF c3] at h;by_cases c4 : fdG (Jn C C' Q) (len Q) 0 < 0;rotate_left
 ·rw [ifF c4] at h; cases h
 have hP : ∀ i, i < len P → Jm S S' P i = false := fun i hi => EW (p := Jm S S' P) (k := len P) (i := 0) (j := i) (by omega) (.inr ⟨c2, by omega⟩)
 have hQ' : ∀ i, i < len Q → Jn C C' Q i = false := fun i hi => EW (p := Jn C C' Q) (k := len Q) (i := 0) (j := i) (by omega) (.inr ⟨c4, by omega⟩)
 refine ⟨rfl, rfl, hp, hq, hQ, fun i hi => ?_, fun i hi => ?_, fun i hi => ?_, fun i hi => ?_⟩
 ·have := hP i hi;unfold Jm at this;simp only [Bool.or_eq_false_iff] at this;exact this.2.2
 ·have := hQ' i hi;unfold Jn at this;simp only [Bool.or_eq_false_iff] at this;exact this.2.2.1
 ·have := hP i hi;unfold Jm at this;simp only [Bool.or_eq_false_iff, decide_eq_false_iff_not] at this;omega
 ·have := hQ' i hi;unfold Jn at this;simp only [Bool.or_eq_false_iff, decide_eq_false_iff_not] at this;show 0 ≤ fd C' (cl Q i 0);omega
def xk (C : D) (k : Key) : D := Ep (kc k) (len C)
theorem Q0 {S C : D} {k : Key} (hk : KOk S C k) (j : Nat) : kv (xk C k) j = kc k j := by
 unfold kv xk;rw [KO];by_cases c : j < len C
 ·rw [if_pos c, HA c];rfl
 ·rw [if_neg c, hk.v1 j (by omega)]
def cvK (S C S' C' P Q : D) (k : Key) : Option Key :=
 if fd P (cl S k.1 0) < 0 then none
 else if fdG (LA C C' Q (xk C k)) (len Q) 0 < 0 then some (fd S' (cl P (fd P (cl S k.1 0)) 1), vs C C' Q (xk C k) 0 (len Q), vs C C' Q (xk C k) 1 (len Q), vs C C' Q (xk C k) 2 (len Q), vs C C' Q (xk C k) 3 (len Q))
 else none
def cvE (S C S' C' P Q : D) (k : Key) : Int := if fd P (cl S k.1 0) < 0 then 9 else 3
def cvD (S C S' C' P Q : D) (k : Key) : D := match cvK S C S' C' P Q k with
 | some n => .row [.int 1, (.int n.1), (.int n.2.1), (.int n.2.2.1), (.int n.2.2.2.1), (.int n.2.2.2.2), .int 0]
 | none => .row [.int 1, .int 0, .int 0, .int 0, .int 0, .int 0, .int (cvE S C S' C' P Q k)]
theorem QE [An] {S C T S' C' T' P Q : D} (hR : Rk S C T) (hR' : Rk S' C' T') (hC : Ck S C S' C' P Q) {k n : Key} (h : cvK S C S' C' P Q k = some n) : KOk S' C' n := by
 have hc' := hR'.c1;unfold cvK at h;by_cases a : fd P (cl S k.1 0) < 0
 ·rw [if_pos a] at h; cases h
 rw [if_neg a] at h;by_cases b : fdG (LA C C' Q (xk C k)) (len Q) 0 < 0;rotate_left
 ·rw [if_neg b] at h; cases h
 rw [if_pos b] at h;have lt := D7 (l := P) (key := cl S k.1 0);have sp := hC.sp (fd P (cl S k.1 0)).toNat (by omega)
 rw [show (((fd P (cl S k.1 0)).toNat : Nat) : Int) = fd P (cl S k.1 0) by omega] at sp
 have lt' := D7 (l := S') (key := cl P (fd P (cl S k.1 0)) 1)
 have nv : ∀ j, vs C C' Q (xk C k) j (len Q) = 0 ∨ (j < len C' ∧ 0 ≤ vs C C' Q (xk C k) j (len Q) ∧ vs C C' Q (xk C k) j (len Q) ≤ (cl C' j 1).toInt) := fun j => by
  rcases fB (v2 := C) (v6 := C') (v9 := Q) (v11 := xk C k) (j := j) (i := len Q) with e | ⟨i, h1, h2, h3⟩
  ·exact .inl e
  ·right;have l1 : pl C' Q i < len C' := D7;have no := EW (p := LA C C' Q (xk C k)) (k := len Q) (i := 0) (j := i) (by omega) (.inr ⟨b, by omega⟩)
   unfold LA at no;simp only [Bool.or_eq_false_iff, decide_eq_false_iff_not] at no;rw [h2] at no;rw [h3];omega
 have kn : ∀ j, j < 4 → kc n j = vs C C' Q (xk C k) j (len Q) := fun j hj => by
  cases h
  match j with
  | 0 => rfl
  | 1 => rfl
  | 2 => rfl
  | 3 => rfl
  | j + 4 => omega
 have n1 : n.1 = fd S' (cl P (fd P (cl S k.1 0)) 1) := by cases h; rfl
 refine ⟨by omega, by omega, fun j hj => ?_, fun j hj => ?_⟩
 ·rw [kn j (by omega)]
  have l := hR'.lim j hj;rcases nv j with e | e <;> omega
 ·by_cases c : j < 4
  ·rw [kn j c];rcases nv j with e | e
   ·exact e
   ·omega
  ·exact Vj (by omega)
section
variable [An]
variable {v0 S C T v0' S' C' T' P Q : D}
theorem Yi (hR : Rk S C T) (hR' : Rk S' C' T') (hC : Ck S C S' C' P Q) {k : Key} (hk : KOk S C k) :
  L9 v0 S C T v0' S' C' T' P Q (.int k.1) (.int k.2.1) (.int k.2.2.1) (.int k.2.2.2.1) (.int k.2.2.2.2) = cvD S C S' C' P Q k := by
 have hc := hR.c1;have hc' := hR'.c1;have s0 := hk.s0;have s1 := hk.s1;have s1' := hR'.s1;have np := hC.np;have nq := hC.nq;have F := YN (v0 := v0) (v1 := S) (v2 := C) (v3 := T) (v4 := v0') (v5 := S') (v6 := C') (v7 := T') (v8 := P) (v9 := Q) (v11 := xk C k) (st := k.1.toNat) hC.q (by omega) (by omega) (by omega) hc hc' (by omega) hC.cq
 rw [show ((k.1.toNat : Nat) : Int) = k.1 by omega, Q0 hk, Q0 hk, Q0 hk, Q0 hk] at F
 refine F.trans ?_;unfold cvD cvK cvE;by_cases a : fd P (cl S k.1 0) < 0
 ·rw [ifT a, if_pos a, if_pos a]
 rw [ifF a, if_neg a, if_neg a];by_cases b : fdG (LA C C' Q (xk C k)) (len Q) 0 < 0
 ·rw [ifT b, if_pos b]
 ·rw [ifF b, if_neg b]
def WP (S C S' C' P Q : D) (k : Key) : Option PK := (cvK S C S' C' P Q k).map fun n => (k, n)
def Lj (S C S' C' P Q : D) (ks : List Key) : List PK := ks.filterMap (WP S C S' C' P Q)
omit [An] in
theorem Ss {k : Key} {ks : List Key} : Lj S C S' C' P Q (k :: ks) = match cvK S C S' C' P Q k with | some n => (k, n) :: Lj S C S' C' P Q ks | none => Lj S C S' C' P Q ks := by
 unfold Lj;rw [List.filterMap_cons];unfold WP;cases cvK S C S' C' P Q k <;> rfl
omit [An] in
theorem VM {ks : List Key} : (Lj S C S' C' P Q ks).length ≤ ks.length := List.length_filterMap_le _ _
theorem Xt (hR : Rk S C T) (hR' : Rk S' C' T') (hC : Ck S C S' C' P Q) {ks : List Key} (h : Ek S C ks) : QG S C S' C' (Lj S C S' C' P Q ks) := by
 intro p hp;obtain ⟨k, hk, e⟩ := List.mem_filterMap.1 hp;unfold WP at e;cases c : cvK S C S' C' P Q k with
 | none => rw [c] at e; cases e
 | some n =>
  rw [c] at e;cases e;exact ⟨h k hk, QE hR hR' hC c⟩
theorem Kf (hR : Rk S C T) (hR' : Rk S' C' T') (hC : Ck S C S' C' P Q) {ks : List Key} (hk : Ek S C ks) (hn : ks.length < 10000) {fl : Bool} : ∀ (rem pre : List Key) (ps : List PK), ks = pre ++ rem → ps.length ≤ pre.length →
  KB (AL ps) (.bool ps.isEmpty) (A7 ks) (.bool fl) (.int (ks.length : Nat)) (.int (pre.length : Nat)) v0 S C T v0' S' C' T' P Q = KB (AL (ps ++ Lj S C S' C' P Q rem)) (.bool (ps ++ Lj S C S' C' P Q rem).isEmpty) (A7 ks) (.bool fl) (.int (ks.length : Nat)) (.int (ks.length : Nat)) v0 S C T v0' S' C' T' P Q
 | [], pre, ps => fun e hl => by
  have : ks.length = pre.length := by rw [e]; simp
  rw [this, show ps ++ Lj S C S' C' P Q [] = ps from List.append_nil _]
 | k :: rem, pre, ps => fun e hl => by
  have hg : ks[pre.length]? = some k := by rw [e]; simp
  have hp : pre.length < ks.length := by rw [e]; simp
  have hkk := hk k (by rw [e]; simp)
  have e' : ks = (pre ++ [k]) ++ rem := by rw [e]; simp
  have epl : (pre ++ [k]).length = pre.length + 1 := by simp
  have F1 : L9 v0 S C T v0' S' C' T' P Q (cl (A7 ks) (pre.length : Nat) 0) (cl (A7 ks) (pre.length : Nat) 1) (cl (A7 ks) (pre.length : Nat) 2) (cl (A7 ks) (pre.length : Nat) 3) (cl (A7 ks) (pre.length : Nat) 4) = cvD S C S' C' P Q k := by
   rw [A2 hg, A2 hg, A2 hg, A2 hg, A2 hg];exact Yi hR hR' hC hkk
  rw [Un (h0 := rfl) (h1 := F1), ifT (by omega), ifF (by omega), Dc, ifT (by omega), A9 (by omega), A2 hg, A2 hg, A2 hg, A2 hg, A2 hg, Ss]
  unfold cvD;cases c : cvK S C S' C' P Q k with
  | none =>
   have ih := Kf (fl := fl) hR hR' hC hk hn rem (pre ++ [k]) ps e' (by omega)
   rw [epl] at ih;dsimp +instances only [As, Au, Ag, Ai];rw [ifT (by rfl), ifF (by unfold cvE; split <;> omega)]
   exact ih
  | some n =>
   have ih := Kf (fl := fl) hR hR' hC hk hn rem (pre ++ [k]) (ps ++ [(k, n)]) e' (by simp; omega)
   rw [epl, show (ps ++ [(k, n)]).isEmpty = false by simp, List.append_assoc] at ih
   dsimp +instances only [As, Au, Ag, Ai];rw [ifT (by rfl), ifT (by rfl), CN, ifT (by omega)]
   have ea : ad (AL ps) (.row (C5 (k, n))) = AL (ps ++ [(k, n)]) := T1;refine Eq.trans ?_ ih;rw [← ea];rfl
def res (S C T S' C' T' P Q : D) : Option PK × List PK := srP S C T S' C' T' 4000 ((Lj S C S' C' P Q (CS S C T)).foldl Bf []) 0
theorem Zs (hR : Rk S C T) (hR' : Rk S' C' T') (hC : Ck S C S' C' P Q) {a : Int} (h : GD v0 S C T v0' S' C' T' P Q = .row [.int 1, .int a, .int 0]) :
  (2000 < (CS S C T).length ∧ HC v0 S C T v0' S' C' T' P Q = .row [.int 1, Do 0 0, AT, .bool true, Do 0 0, AT, .bool true, .int 0, .int 0, .bool false, .int 7]) ∨
  ((CS S C T).length ≤ 2000 ∧ match res S C T S' C' T' P Q with
   | (none, ps) => HC v0 S C T v0' S' C' T' P Q = cond (decide (4000 < (ps.length : Int))) (.row [.int 1, Do 0 0, AT, .bool true, Do 0 0, AT, .bool true, .int 0, .int 0, .bool false, .int 7]) (.row [.int 1, Do 0 0, AT, .bool true, Do 0 0, AT, .bool true, .int 0, .int 0, .bool true, .int 0])
   | (some p, ps) => ∃ x x', POk S C S' C' p ∧ Cf S C p.1 (cl S p.1.1 0) x ∧ Cf S' C' p.2 (cl S' p.2.1 0) x' ∧ (flt S C T S' C' T' p).1 ≠ 0 ∧
     HC v0 S C T v0' S' C' T' P Q = .row [.int 1, cl S p.1.1 0, x, .bool false, cl S' p.2.1 0, x', .bool false, .int ((flt S C T S' C' T' p).1 : Nat), .int ((flt S C T S' C' T' p).2 : Nat), .bool false, .int 0]) := by
 have ok : Ek S C (CS S C T) := JD hR fun k hk => by rw [List.mem_singleton.1 hk]; exact JF hR
 have W := Pc (v0 := v0) hR;rw [XW (h0 := W), h];dsimp +instances only [As, Au, Ag, Ai];rw [ifT (by rfl), ifT (by rfl), ifT (by rfl)]
 by_cases g : 2000 < (CS S C T).length
 ·exact .inl ⟨g, ifT (by omega)⟩
 ·refine .inr ⟨by omega, ?_⟩
  have L := Kf (v0 := v0) (v0' := v0') (fl := (CS S C T).isEmpty) hR hR' hC ok (by omega) (CS S C T) [] [] rfl (Nat.le_refl _)
  rw [List.nil_append] at L;have fl := VM (S := S) (C := C) (S' := S') (C' := C') (P := P) (Q := Q) (ks := CS S C T);have O := YB (v0 := v0) (v0' := v0') (w8 := Do 0 0) (w9 := AT) (w11 := Do 0 0) (w12 := AT) (b10 := true) (b13 := true) (i14 := 0) (i15 := 0) hR hR' (b := (Lj S C S' C' P Q (CS S C T)).isEmpty) (by omega) (Xt hR hR' hC ok)
  rw [ifF (by omega), Dc, show KB AT (.bool true) (A7 (CS S C T)) (.bool (CS S C T).isEmpty) (.int ((CS S C T).length : Nat)) (.int 0) v0 S C T v0' S' C' T' P Q = _ from L]
  show match res S C T S' C' T' P Q with
   | (none, ps) => _
   | (some p, ps) => _
  have O : Xp S C S' C' T T' v0 v0' (Do 0 0) AT (.bool true) (Do 0 0) AT (.bool true) (.int 0) (.int 0) _ (res S C T S' C' T' P Q) := O;cases c : res S C T S' C' T' P Q with
  | mk a ps =>
   rw [c] at O;cases a with
   | none =>
    have O : _ = _ := O;show _ = _;rw [Un (h0 := O) (h1 := rfl), ifF (by omega)]
    dsimp +instances only [As, Au, Ag, Ai];rw [ifT (by rfl)]
    cases decide (4000 < (ps.length : Int)) <;> rfl
   | some p =>
    obtain ⟨x, x', o1, o2, o3, o4, O⟩ := O;refine ⟨x, x', o1, o2, o3, o4, ?_⟩;rw [Un (h0 := O) (h1 := rfl), ifF (by omega)]
    dsimp +instances only [As, Au, Ag, Ai];rw [ifT (by rfl), cond_false, decide_eq_false (by omega)]
end
end Ct
namespace Ct
open Go Go.AE
section
variable [An]
variable {v0 S C T v0' S' C' T' P Q : D}
theorem WY : ∃ a e : Int, chk v0 S C T v0' S' C' T' P Q = .row [.int 1, .int a, .int e] := by
 unfold chk;cases rok v0 S C T
 ·exact ⟨_, _, rfl⟩
 cases rok v0' S' C' T'
 ·exact ⟨_, _, rfl⟩
 cases decide (24 < (len P : Int));rotate_left
 ·exact ⟨_, _, rfl⟩
 cases decide (fdG (Jm S S' P) (len P) 0 < 0)
 ·exact ⟨_, _, rfl⟩
 cases decide (4 < (len Q : Int));rotate_left
 ·exact ⟨_, _, rfl⟩
 cases decide (fdG (Jn C C' Q) (len Q) 0 < 0)
 ·exact ⟨_, _, rfl⟩
 ·exact ⟨_, _, rfl⟩
theorem Bm : (sl Eu 0).toInt = 1 := by rw [ii]; rfl
end
end Ct
namespace Ct
open Go Go.AE
structure Cg (S C : D) (k : Key) (t x : D) : Prop where
 cf : Cf S C k t x
 i : ∀ j : Nat, j < len C → cl x j 0 = .int (kc k j)
section
variable [An]
variable {S C T v0 v0' S' C' T' P Q : D}
theorem Cg.ni {k : Key} {t x : D} {b : Bool} (h : Cg S C k t x) : Cg S C k t (ni x b) := ⟨h.cf.ni, h.i⟩
theorem UL (hR : Rk S C T) {k : Key} (hk : KOk S C k) : ∃ x, Db (.int k.1) (.int k.2.1) (.int k.2.2.1) (.int k.2.2.2.1) (.int k.2.2.2.2) v0 S C T = .row [.int 1, cl S k.1 0, x] ∧ Cg S C k (cl S k.1 0) x := by
 have hc := hR.c1;have s0 := hk.s0;have s1 := hk.s1;have G : ∀ x, len x = len C → Wd x 1 → (∀ j : Nat, j < len C → cl x j 0 = .int (kc k j)) → Cg S C k (cl S k.1 0) x := fun x a b c => ⟨⟨B9, a, fun j hj => by rw [c j hj, Ag], b⟩, c⟩
 rw [Ye, ifF (by omega), ifT (by omega)]
 by_cases n0 : (len C : Int) = 0
 ·rw [ifT n0];exact ⟨_, rfl, G _ (by rw [AX]; omega) BP fun j hj => by omega⟩
 rw [ifF n0];by_cases n1 : (len C : Int) = 1
 ·rw [ifT n1];refine ⟨_, rfl, G _ (by rw [AR, AX]; omega) (CI BP rfl) fun j hj => ?_⟩
  match j with
  | 0 => rfl
  | j + 1 => omega
 rw [ifF n1];by_cases n2 : (len C : Int) = 2
 ·rw [ifT n2];refine ⟨_, rfl, G _ (by rw [AR, AR, AX]; omega) (CI (CI BP rfl) rfl) fun j hj => ?_⟩
  match j with
  | 0 => rfl
  | 1 => rfl
  | j + 2 => omega
 rw [ifF n2];by_cases n3 : (len C : Int) = 3
 ·rw [ifT n3];refine ⟨_, rfl, G _ (by rw [AR, AR, AR, AX]; omega) (CI (CI (CI BP rfl) rfl) rfl) fun j hj => ?_⟩
  match j with
  | 0 => rfl
  | 1 => rfl
  | 2 => rfl
  | j + 3 => omega
 rw [ifF n3];have n4 : (len C : Int) = 4 := by omega
 rw [ifT n4];refine ⟨_, rfl, G _ (by rw [AR, AR, AR, AR, AX]; omega) (CI (CI (CI (CI BP rfl) rfl) rfl) rfl) fun j hj => ?_⟩
 match j with
 | 0 => rfl
 | 1 => rfl
 | 2 => rfl
 | 3 => rfl
 | j + 4 => omega
theorem Pu (hR : Rk S C T) {k : Key} (hk : KOk S C k) {t x : D} (hx : Cg S C k t x) : OQ v0 S C T t x = .row [.int 1, .int k.1, .int k.2.1, .int k.2.2.1, .int k.2.2.2.1, .int k.2.2.2.2, .bool true] := by
 have hc := hR.c1;have s0 := hk.s0;have s1 := hR.s1;have hl := hx.cf.l
 have L : ∀ j : Nat, j ≤ len C → NI x (.int 0) v0 S C T t (.int k.1) = NI x (.int (j : Nat)) v0 S C T t (.int k.1) := fun j => by
  induction j with
  | zero => intro _; rfl
  | succ j ih =>
   intro h;have a := hk.v0 j (by omega)
   rw [ih (by omega), X4, ifT (by omega), ifF (by omega), hx.i j (by omega), Ag, ifF (by omega), ifT (by omega), ifF (by omega), A9 (by omega)]
 rw [dG, NK (v0 := S) (by omega), hx.cf.st hR hk]
 have n0 : ¬ k.1 < 0 := by omega
 simp only [As, Au, Ag, decide_true, cond_true, n0, decide_false, cond_false];rw [ifT (by omega), L (len C) (Nat.le_refl _), X4, ifF (by omega)]
 by_cases n4 : (len x : Int) < 4;rotate_left
 ·rw [ifF n4];have z0 := hx.i 0 (by omega)
  have z1 := hx.i 1 (by omega)
  have z2 := hx.i 2 (by omega)
  have z3 := hx.i 3 (by omega)
  show D.row [.int 1, .int k.1, cl x ((0 : Nat) : Int) 0, cl x ((1 : Nat) : Int) 0, cl x ((2 : Nat) : Int) 0, cl x ((3 : Nat) : Int) 0, .bool true] = _;rw [z0, z1, z2, z3];rfl
 rw [ifT n4];by_cases n0 : (len x : Int) = 0
 ·rw [ifT n0];have w0 : k.2.1 = 0 := hk.v1 0 (by omega)
  have w1 : k.2.2.1 = 0 := hk.v1 1 (by omega)
  have w2 : k.2.2.2.1 = 0 := hk.v1 2 (by omega)
  have w3 : k.2.2.2.2 = 0 := hk.v1 3 (by omega)
  rw [w0, w1, w2, w3]
 rw [ifF n0];by_cases n1 : (len x : Int) = 1
 ·rw [ifT n1];have z0 := hx.i 0 (by omega)
  have w1 : k.2.2.1 = 0 := hk.v1 1 (by omega)
  have w2 : k.2.2.2.1 = 0 := hk.v1 2 (by omega)
  have w3 : k.2.2.2.2 = 0 := hk.v1 3 (by omega)
  show D.row [.int 1, .int k.1, cl x ((0 : Nat) : Int) 0, .int 0, .int 0, .int 0, .bool true] = _;rw [z0, w1, w2, w3];rfl
 rw [ifF n1];by_cases n2 : (len x : Int) = 2
 ·rw [ifT n2];have z0 := hx.i 0 (by omega)
  have z1 := hx.i 1 (by omega)
  have w2 : k.2.2.2.1 = 0 := hk.v1 2 (by omega)
  have w3 : k.2.2.2.2 = 0 := hk.v1 3 (by omega)
  show D.row [.int 1, .int k.1, cl x ((0 : Nat) : Int) 0, cl x ((1 : Nat) : Int) 0, .int 0, .int 0, .bool true] = _;rw [z0, z1, w2, w3];rfl
 rw [ifF n2, ifT (by omega)]
 have z0 := hx.i 0 (by omega)
 have z1 := hx.i 1 (by omega)
 have z2 := hx.i 2 (by omega)
 have w3 : k.2.2.2.2 = 0 := hk.v1 3 (by omega)
 show D.row [.int 1, .int k.1, cl x ((0 : Nat) : Int) 0, cl x ((1 : Nat) : Int) 0, cl x ((2 : Nat) : Int) 0, .int 0, .bool true] = _;rw [z0, z1, z2, w3];rfl
theorem Iz (h : rok v0 S C T = true) (hs : Dk T) (hS : len S < 1000) (hC : len C < 1000) (hT : len T < 1000) :
  DB v0 = .row [.int 1, .bool true] ∧ (∃ a, Je (.int (len C : Nat)) (.int 0) (.int 4) v0 S C T = .row [.int 1, .int a] ∧ a < 0) ∧ (∃ a, Jf (.int (len S : Nat)) (.int 1) (.int 24) v0 S C T = .row [.int 1, .int a] ∧ a < 0) ∧ (∃ a, Jj (.int (len T : Nat)) (.int 0) (.int 80) v0 S C T = .row [.int 1, .int a] ∧ a < 0) := by
 unfold rok at h;simp only [Bool.and_eq_true] at h;obtain ⟨h1, h2, h3, h4⟩ := h;refine ⟨?_, ⟨_, Rb hC v0 S T, dT h2⟩, ⟨_, RJ hS v0 C T, dT h3⟩, ⟨_, QR hs hT hS hC v0, dT h4⟩⟩;rw [LW, h1]
theorem MY (hR : Rk S C T) (hr : rok v0 S C T = true) {k : Key} (hk : KOk S C k) {t x : D} (hx : Cg S C k t x) : C9 v0 S C T t x = .row [.int 1, Aw (enl S C T k), .bool (enl S C T k).isEmpty, .int 0] := by
 have hc := hR.c1;have s1 := hR.s1;have t1 := hR.t1;obtain ⟨p1, ⟨a, p3, qa⟩, ⟨b, p5, qb⟩, ⟨c, p7, qc⟩⟩ := Iz hr hR.tI s1 (by omega) (by omega)
 rw [hU (h0 := Pu (v0 := v0) hR hk hx), p1, p3, p5, p7];simp only [As, Au, Ag, Ai, decide_true, cond_true, qa, qb, qc, Nn hR hk]
theorem Z7 {L : List Nat} {b : Bool} {s : Nat} (hn : L.length < 1000) (hs : s ∈ L) : ∃ m : Int, 0 ≤ m ∧ OH (Aw L) (.bool b) (.int (s : Nat)) = .row [.int 1, .int m] := by
 have F : OH (Aw L) (.bool b) (.int (s : Nat)) = .row [.int 1, .int (fdG (M3 (fun m => decide (s = m)) L) L.length 0)] := by
  rw [dy];refine find (F := fun j => Ku (Aw L) (.bool b) (.int (s : Nat)) (.int (j : Nat))) (fun j hj => ?_) ?_
  ·show Ku (Aw L) (.bool b) (.int (s : Nat)) (.int (j : Nat)) = cond _ _ (Ku (Aw L) (.bool b) (.int (s : Nat)) (.int (j + 1 : Nat)));have e : L[j]? = some L[j] := by simp [hj]
   rw [XQ, AQ, ifT (by omega), ifF (by omega), Cv e, Ag, A9 (by omega)]
   unfold M3;rw [e];show cond (decide (((s : Nat) : Int) = ((L[j] : Nat) : Int))) _ _ = cond (decide (s = L[j])) _ _;rw [show decide (((s : Nat) : Int) = ((L[j] : Nat) : Int)) = decide (s = L[j]) from decide_eq_decide.2 (by omega)]
  ·show Ku (Aw L) (.bool b) (.int (s : Nat)) (.int (L.length : Nat)) = _;rw [XQ, AQ, ifF (by omega)]
 have a := Ra (p := fun m => decide (s = m)) (M := L)
 have t : L.any (fun m => decide (s = m)) = true := List.any_eq_true.2 ⟨s, hs, by simp⟩
 rw [t] at a;have q : ¬ fdG (M3 (fun m => decide (s = m)) L) L.length 0 < 0 := dF a
 exact ⟨_, by omega, F⟩
theorem Vh (hR : Rk S C T) (hr : rok v0 S C T = true) {k : Key} (hk : KOk S C k) {t x : D} (hx : Cg S C k t x) {s : Nat} (hs : s ∈ enl S C T k) :
  ∃ x', Fu v0 S C T t x (.int (s : Nat)) = .row [.int 1, cl S (nx S C T k s).1 0, x', .bool false, .int 0] ∧ Cg S C (nx S C T k s) (cl S (nx S C T k s).1 0) x' := by
 obtain ⟨h1, h2⟩ := Bv hs;have ht := hR.t1;have hl := DO (S := S) (C := C) (T := T) (k := k);obtain ⟨x', q1, q2⟩ := UL (v0 := v0) hR (GI hR hk h1 h2);obtain ⟨m, m0, hm⟩ := Z7 (b := (enl S C T k).isEmpty) (by omega) hs
 refine ⟨x', ?_, q2⟩;have d := Pb (v0 := v0) hR hk h1 h2;have d : Fm (.int k.1) (.int k.2.1) (.int k.2.2.1) (.int k.2.2.2.1) (.int k.2.2.2.2) v0 S C T (.int (s : Nat)) = .row [.int 1, .int (nx S C T k s).1, .int (nx S C T k s).2.1, .int (nx S C T k s).2.2.1, .int (nx S C T k s).2.2.2.1, .int (nx S C T k s).2.2.2.2] := d;rw [eY (h0 := Pu (v0 := v0) hR hk hx) (h1 := rfl), MY hR hr hk hx];simp only [As, Au, Ag, Ai, decide_true, cond_true, hm, d, q1, (show ¬ m < 0 by omega), decide_false, cond_false]
theorem YU (hR : Rk S C T) (hR' : Rk S' C' T') (hC : Ck S C S' C' P Q) {a : Int} (h : GD v0 S C T v0' S' C' T' P Q = .row [.int 1, .int a, .int 0]) {k : Key} (hk : KOk S C k) {t x : D} (hx : Cg S C k t x) :
  ∃ t' x' b e, Uy v0 S C T v0' S' C' T' P Q t x = .row [.int 1, t', x', .bool b, .int e] ∧ (e = 0 → ∃ n, cvK S C S' C' P Q k = some n ∧ Cg S' C' n t' x') := by
 have cv := Yi (v0 := v0) (v0' := v0') hR hR' hC hk;rw [cw (h0 := Pu (v0 := v0) hR hk hx) (h1 := rfl), h];simp only [As, Au, Ag, Ai, decide_true, cond_true, cv];unfold cvD;cases e : cvK S C S' C' P Q k with
 | none =>
  have ne : ¬ cvE S C S' C' P Q k = 0 := by
   unfold cvE;split <;> decide
  simp only [As, Au, Ag, decide_true, cond_true, ne, decide_false, cond_false];exact ⟨_, _, _, _, rfl, fun h => absurd h ne⟩
 | some n =>
  obtain ⟨x', q1, q2⟩ := UL (v0 := v0') hR' (QE hR hR' hC e);simp only [As, Au, Ag, decide_true, cond_true, q1];exact ⟨_, _, _, _, rfl, fun _ => ⟨n, rfl, q2⟩⟩
structure RG (S C : D) (ks : List Key) (d : D) : Prop where
 l : len d = ks.length
 c : ∀ (i : Nat) (k : Key), ks[i]? = some k → Cg S C k (cl d i 0) (cl d i 1)
omit [An] in
theorem RG.ad {ks : List Key} {d t x : D} {k : Key} (h : RG S C ks d) (hx : Cg S C k t x) : RG S C (ks ++ [k]) (ad d (.row [t, x])) := by
 refine ⟨by rw [AR, h.l]; simp, fun i k' hi => ?_⟩
 rw [IE (by omega), IE (by omega), h.l]
 by_cases c : i < ks.length
 ·rw [List.getElem?_append_left c] at hi;rw [if_neg (by omega), if_neg (by omega)]
  exact h.c i k' hi
 ·have hlt : i < (ks ++ [k]).length := by
   rcases Nat.lt_or_ge i (ks ++ [k]).length with q | q
   ·exact q
   ·rw [List.getElem?_eq_none q] at hi;cases hi
  simp only [List.length_append, List.length_singleton] at hlt;have e : i = ks.length := by omega
  subst e;rw [if_pos rfl, if_pos rfl];simp at hi;subst hi;exact hx
end
end Ct
namespace Ct
open Go Go.AE
theorem HO {x : Int} (h0 : 0 ≤ x) (h1 : x < 18446744073709551616) : IntKind.wrap .u64 x = x := by
 simp only [IntKind.wrap, IntKind.bits, IntKind.signed];have := Int.emod_eq_of_lt h0 h1
 simp_all
theorem Xm {x : Int} : 0 ≤ IntKind.wrap .u64 x := by
 simp only [IntKind.wrap, IntKind.bits, IntKind.signed];have := Int.emod_nonneg x (b := 18446744073709551616) (by omega)
 simp_all
theorem PD {n : Nat} (h0 : 0 < n) (h1 : n < 1000000) (v : Int) : ∃ j : Nat, j < n ∧ IntKind.wrap .i64 (ari .rem .u64 (IntKind.wrap .u64 v) (IntKind.wrap .u64 (n : Int))) = (j : Int) := by
 rw [HO (x := (n : Int)) (by omega) (by omega)]
 have p := Xm (x := v);generalize IntKind.wrap .u64 v = a at p
 have e : ari .rem .u64 a (n : Int) = a.tmod n := by
  unfold ari CW
  have : ((n : Int) == 0) = false := by
   rw [beq_eq_false_iff_ne];omega
  simp only [this]
 rw [e, Int.tmod_eq_emod_of_nonneg p];have a0 := Int.emod_nonneg a (b := n) (by omega)
 have a1 := Int.emod_lt_of_pos a (b := n) (by omega)
 refine ⟨(a % n).toNat, by omega, ?_⟩
 rw [B8 (by omega) (by omega)]
 omega
section
variable [An]
variable {S C T v0 v0' S' C' T' P Q : D}
theorem TY (hR : Rk S C T) {ks : List Key} (ok : Ek S C ks) (hn : ks.length < 10000) {fl : Bool} {i : Nat} {k : Key} (g : ks[i]? = some k) (hi : i < ks.length) {d : D} {b : Bool} (hd : len d = i) :
  ∃ x, Mx d (.bool b) (A7 ks) (.bool fl) (.int (ks.length : Nat)) (.int (i : Nat)) v0 S C T = Mx (ad d (.row [cl S k.1 0, x])) (.bool false) (A7 ks) (.bool fl) (.int (ks.length : Nat)) (.int (i + 1 : Nat)) v0 S C T ∧ Cg S C k (cl S k.1 0) x := by
 obtain ⟨x, q1, q2⟩ := UL (v0 := v0) hR (ok k (List.mem_of_getElem? g));have z0 : cl (A7 ks) (i : Nat) 0 = .int k.1 := A2 g;have z1 : cl (A7 ks) (i : Nat) 1 = .int k.2.1 := A2 g;have z2 : cl (A7 ks) (i : Nat) 2 = .int k.2.2.1 := A2 g;have z3 : cl (A7 ks) (i : Nat) 3 = .int k.2.2.2.1 := A2 g;have z4 : cl (A7 ks) (i : Nat) 4 = .int k.2.2.2.2 := A2 g;refine ⟨ni x false, ?_, q2.ni⟩;rw [Yr, ifT (by omega), ifF (by omega), Dc, ifT (by omega), z0, z1, z2, z3, z4, q1, A9 (by omega)]
 have e1 : (sl (D.row [.int 1, cl S k.1 0, x]) 0) = .int 1 := rfl;have e2 : (sl (D.row [.int 1, cl S k.1 0, x]) 1) = cl S k.1 0 := rfl;have e3 : (sl (D.row [.int 1, cl S k.1 0, x]) 2) = x := rfl;rw [e1, e2, e3, ifT (show (D.int 1).toInt = 1 from rfl), ifT (by omega)]
theorem U0 (hR : Rk S C T) {ks : List Key} (ok : Ek S C ks) (hn : ks.length < 10000) {fl : Bool} : ∀ (n i : Nat) (d : D) (b : Bool), i + n = ks.length → RG S C (ks.take i) d →
  ∃ d' b', Mx d (.bool b) (A7 ks) (.bool fl) (.int (ks.length : Nat)) (.int (i : Nat)) v0 S C T = .row [.int 1, d', .bool b', .int 0] ∧ RG S C ks d' := fun n => by
 induction n with
 | zero =>
  intro i d b e h;refine ⟨d, b, ?_, ?_⟩
  ·rw [Yr, ifF (by omega)]
  ·rw [List.take_of_length_le (by omega)] at h
   exact h
 | succ n ih =>
  intro i d b e h;have hi : i < ks.length := by omega
  have g : ks[i]? = some ks[i] := by simp [hi]
  have hd := h.l;rw [List.length_take, Nat.min_eq_left (by omega)] at hd
  obtain ⟨x, q1, q2⟩ := TY (v0 := v0) (fl := fl) (b := b) hR ok hn g hi hd
  obtain ⟨d', b', r1, r2⟩ := ih (i + 1) (ad d (.row [cl S (ks[i]).1 0, x])) false (by omega) (by
   rw [List.take_add_one, g];exact h.ad q2)
  exact ⟨d', b', q1.trans r1, r2⟩
theorem TA (hR : Rk S C T) (hr : rok v0 S C T = true) (hn : (CS S C T).length ≤ 2000) : ∃ d b, Mk v0 S C T = .row [.int 1, d, .bool b, .int 0] ∧ RG S C (CS S C T) d := by
 have hc := hR.c1;have s1 := hR.s1;have t1 := hR.t1;have ok : Ek S C (CS S C T) := JD hR fun k hk => by rw [List.mem_singleton.1 hk]; exact JF hR
 obtain ⟨p1, ⟨a, p3, qa⟩, ⟨b, p5, qb⟩, ⟨c, p7, qc⟩⟩ := Iz hr hR.tI s1 (by omega) (by omega)
 obtain ⟨d, fl, r1, r2⟩ := U0 (v0 := v0) (fl := (CS S C T).isEmpty) hR ok (by omega) (CS S C T).length 0 AT true (by omega) ⟨rfl, fun i k h => by simp at h⟩
 refine ⟨d, fl, ?_, r2⟩;have nf : ¬ 2000 < ((CS S C T).length : Int) := by omega
 rw [Vq (h0 := Pc (v0 := v0) hR), p1, p3, p5, p7];simp only [As, Au, Ag, Ai, decide_true, cond_true, qa, qb, qc, nf, decide_false, cond_false];rw [Dc];exact r1
theorem Oq {L : List Nat} {b : Bool} (hL : ∀ s ∈ L, s < len T') (hn : L.length < 1000) {c0 c1 c3 c4 c5 : D} {c2 c6 c7 c8 : Int} : ∀ (rem pre : List Nat), L = pre ++ rem →
  Hr (Aw L) (.bool b) (Aw (pre.filter fun m : Nat => (decide ((cl T' m 2).toInt = c2) && (D.strEq (cl T' m 3) c3 && D.strEq (cl T' m 4) c4)))) (.bool (pre.filter fun m : Nat => (decide ((cl T' m 2).toInt = c2) && (D.strEq (cl T' m 3) c3 && D.strEq (cl T' m 4) c4))).isEmpty) (.int (pre.length : Nat)) v0' S' C' T' c0 c1 (.int c2) c3 c4 c5 (.int c6) (.int c7) (.int c8) =
   .row [.int 1, Aw (L.filter fun m : Nat => (decide ((cl T' m 2).toInt = c2) && (D.strEq (cl T' m 3) c3 && D.strEq (cl T' m 4) c4))), .bool (L.filter fun m : Nat => (decide ((cl T' m 2).toInt = c2) && (D.strEq (cl T' m 3) c3 && D.strEq (cl T' m 4) c4))).isEmpty]
 | [], pre, e => by
  rw [List.append_nil] at e;subst e;rw [XX, AQ, ifF (by omega)]
 | s :: rem, pre, e => by
  have g : L[pre.length]? = some s := by rw [e]; simp
  have l : L.length = pre.length + (rem.length + 1) := by rw [e]; simp
  have hs := hL s (by rw [e]; simp)
  have fl := List.length_filter_le (fun m : Nat => (decide ((cl T' m 2).toInt = c2) && (D.strEq (cl T' m 3) c3 && D.strEq (cl T' m 4) c4))) pre
  have ih := Oq (b := b) hL hn (c0 := c0) (c1 := c1) (c5 := c5) (c6 := c6) (c7 := c7) (c8 := c8) (c2 := c2) (c3 := c3) (c4 := c4) rem (pre ++ [s]) (by rw [e]; simp)
  rw [List.length_append, List.length_singleton, List.filter_append] at ih;rw [XX, AQ, ifT (by omega), ifF (by omega), Cv g, Ag, ifF (by omega), ifT (by omega), A9 (by omega), AQ]
  by_cases k1 : (cl T' s 2).toInt = c2;rotate_left
  ·rw [ifF k1];rw [List.filter_cons_of_neg (by simp [k1]), List.filter_nil, List.append_nil] at ih
   exact ih
  rw [ifT k1];cases k2 : D.strEq (cl T' s 3) c3 with
  | false =>
   rw [List.filter_cons_of_neg (by simp [k2]), List.filter_nil, List.append_nil] at ih
   exact ih
  | true =>
   cases k3 : D.strEq (cl T' s 4) c4 with
   | false =>
    rw [List.filter_cons_of_neg (by simp [k3]), List.filter_nil, List.append_nil] at ih
    exact ih
   | true =>
    rw [List.filter_cons_of_pos (by simp [k1, k2, k3]), List.filter_nil] at ih
    rw [cond_true, cond_true, ifT (by omega), JG]
    rw [show (List.filter (fun m : Nat => (decide ((cl T' m 2).toInt = c2) && (D.strEq (cl T' m 3) c3 && D.strEq (cl T' m 4) c4))) pre ++ [s]).isEmpty = false by simp] at ih
    exact ih
theorem Zn {L : List Nat} {b : Bool} (hT : Dk T) (hL : ∀ s ∈ L, s < len T') (hn : L.length < 1000) {i : Nat} (hi : i < len T) :
  UC v0' S' C' T' (Aw L) (.bool b) (cl T i 0) (cl T i 1) (cl T i 2) (cl T i 3) (cl T i 4) (cl T i 5) (cl T i 6) (cl T i 7) (cl T i 8) = .row [.int 1, Aw (L.filter fun m => alk T' m T i), .bool (L.filter fun m => alk T' m T i).isEmpty] := by
 obtain ⟨⟨a, ha⟩, ⟨b', hb⟩, ⟨c, hc⟩, ⟨d, hd⟩, _, _⟩ := hT i hi;have F := Oq (v0' := v0') (S' := S') (C' := C') (b := b) hL hn (c0 := cl T i 0) (c1 := cl T i 1) (c5 := cl T i 5) (c6 := b') (c7 := c) (c8 := d) (c2 := a) (c3 := cl T i 3) (c4 := cl T i 4) L [] rfl
 have e : (fun m : Nat => alk T' m T i) = fun m : Nat => (decide ((cl T' m 2).toInt = a) && (D.strEq (cl T' m 3) (cl T i 3) && D.strEq (cl T' m 4) (cl T i 4))) := by
  funext m
  unfold alk;rw [ha, Ag]
 rw [ha, hb, hc, hd, fk, e];exact F
theorem Vd (hR : Rk S C T) (hR' : Rk S' C' T') (hr : rok v0 S C T = true) (hr' : rok v0' S' C' T' = true) {k n : Key} (hk : KOk S C k) (hk' : KOk S' C' n) {t x t' x' : D} (hx : Cg S C k t x) (hx' : Cg S' C' n t' x') {i : Nat} (hi : i ∈ enl S C T k)
  (hm : ∃ m ∈ enl S' C' T' n, alk T' m T i = true) (by' : Int) :
  ∃ m y y', m ∈ enl S' C' T' n ∧ alk T' m T i = true ∧ C8 v0 S C T t x (.int (i : Nat)) v0' S' C' T' t' x' (.int by') = .row [.int 1, .bool true, cl S (nx S C T k i).1 0, y, cl S' (nx S' C' T' n m).1 0, y'] ∧ Cg S C (nx S C T k i) (cl S (nx S C T k i).1 0) y ∧ Cg S' C' (nx S' C' T' n m) (cl S' (nx S' C' T' n m).1 0) y' := by
 have ht := hR.t1;have ht' := hR'.t1;have hl := DO (S := S') (C := C') (T := T') (k := n);have hil := (Bv hi).1;have lf := List.length_filter_le (fun m => alk T' m T i) (enl S' C' T' n)
 have l0 : 0 < ((enl S' C' T' n).filter fun m => alk T' m T i).length := by
  obtain ⟨m, m1, m2⟩ := hm;exact List.length_pos_of_mem (List.mem_filter.2 ⟨m1, m2⟩)
 obtain ⟨j, j1, j2⟩ := PD l0 (by omega) by'
 have g : ((enl S' C' T' n).filter fun m => alk T' m T i)[j]? = some (((enl S' C' T' n).filter fun m => alk T' m T i)[j]) := by simp [j1]
 have mem := List.mem_filter.1 (List.mem_of_getElem? g);generalize ((enl S' C' T' n).filter fun m => alk T' m T i)[j] = m at g mem
 obtain ⟨y, a1, a2⟩ := Vh (v0 := v0) hR hr hk hx hi;obtain ⟨y', b1, b2⟩ := Vh (v0 := v0') hR' hr' hk' hx' mem.1;refine ⟨m, ni y false, ni y' false, mem.1, mem.2, ?_, a2.ni, b2.ni⟩;have A := Zn (v0' := v0') (S' := S') (C' := C') (b := (enl S' C' T' n).isEmpty) (L := enl S' C' T' n) hR.tI (fun s h => (Bv h).1) (by omega) hil
 have n1 : ¬ ((i : Int) < 0) := by omega
 have n2 : (i : Int) < (len T : Int) := by omega
 rw [bI (h0 := MY (v0 := v0') hR' hr' hk' hx') (h1 := rfl) (h2 := rfl)];simp only [As, Au, Ag, Ai, decide_true, cond_true, A, AQ, j2, Cv g, a1, b1, n1, n2, decide_false, cond_false];have n3 : ¬ ((((enl S' C' T' n).filter fun m => alk T' m T i).length : Nat) : Int) = 0 := by omega
 have n4 : ¬ IntKind.wrap .u64 ((((enl S' C' T' n).filter fun m => alk T' m T i).length : Nat) : Int) = 0 := by
  rw [HO (by omega) (by omega)]
  omega
 have n5 : ¬ ((j : Int) < 0) := by omega
 have n6 : (j : Int) < ((((enl S' C' T' n).filter fun m => alk T' m T i).length : Nat) : Int) := by omega
 simp only [n3, n4, n5, n6, decide_true, decide_false, cond_true, cond_false]
end
end Ct
namespace Ct
open Go Go.AE
section
variable {S C T S' C' T' P Q : D}
theorem T5 {ps : List PK} {p : PK} : p ∈ Bf ps p := by
 unfold Bf;by_cases h : p ∈ ps
 ·rw [if_pos h]; exact h
 ·rw [if_neg h]; simp
theorem Ub {ps : List PK} {p q : PK} (h : q ∈ ps) : q ∈ Bf ps p := by
 unfold Bf;by_cases c : p ∈ ps
 ·rw [if_pos c]; exact h
 ·rw [if_neg c]; simp [h]
theorem Um {ps : List PK} {p : PK} {i : Nat} {q : PK} (h : ps[i]? = some q) : (Bf ps p)[i]? = some q := by
 unfold Bf;by_cases c : p ∈ ps
 ·rw [if_pos c]; exact h
 ·rw [if_neg c, List.getElem?_append_left (List.getElem?_eq_some_iff.1 h).1]; exact h
theorem Kv : ∀ {l ps : List PK} {q : PK}, q ∈ ps → q ∈ l.foldl Bf ps
 | [], ps, q, h => h
 | p :: l, ps, q, h => Kv (l := l) (Ub h)
theorem KD : ∀ {l ps : List PK} {q : PK}, q ∈ l → q ∈ l.foldl Bf ps
 | p :: l, ps, q, h => by
  rcases List.mem_cons.1 h with rfl | h
  ·exact Kv (l := l) T5
  ·exact KD (l := l) h
theorem Kk : ∀ {l ps : List PK} {i : Nat} {q : PK}, ps[i]? = some q → (l.foldl Bf ps)[i]? = some q
 | [], ps, i, q, h => h
 | p :: l, ps, i, q, h => Kk (l := l) (Um h)
theorem Lb : ∀ {f i : Nat} {ps ps' : List PK}, srP S C T S' C' T' f ps i = (none, ps') → ps'.length ≤ i + f →
  (∀ q, q ∈ ps → q ∈ ps') ∧ (∀ (j : Nat) (q : PK), ps[j]? = some q → ps'[j]? = some q) ∧ ∀ (j : Nat) (q : PK), i ≤ j → ps'[j]? = some q → (flt S C T S' C' T' q).1 = 0 ∧ ∀ r, r ∈ bhd S C T S' C' T' q → r ∈ ps'
 | 0, i, ps, ps', h, hl => by
  have h : (none, ps) = (none, ps') := h;cases h;refine ⟨fun q h => h, fun j q h => h, fun j q hj hq => ?_⟩
  rw [List.getElem?_eq_none (by omega)] at hq
  cases hq
 | f + 1, i, ps, ps', h, hl => by
  unfold srP at h;cases g : ps[i]? with
  | none =>
   rw [g] at h;have h : (none, ps) = (none, ps') := h;cases h;refine ⟨fun q h => h, fun j q h => h, fun j q hj hq => ?_⟩
   have := List.getElem?_eq_none_iff.1 g;rw [List.getElem?_eq_none (by omega)] at hq
   cases hq
  | some p =>
   rw [g] at h;by_cases c : (flt S C T S' C' T' p).1 = 0
   ·have h : (if (flt S C T S' C' T' p).1 = 0 then srP S C T S' C' T' f ((bhd S C T S' C' T' p).foldl Bf ps) (i + 1) else (some p, ps)) = (none, ps') := h
    rw [if_pos c] at h;obtain ⟨a1, a2, a3⟩ := Lb h (by omega)
    refine ⟨fun q hq => a1 q (Kv hq), fun j q hq => a2 j q (Kk hq), fun j q hj hq => ?_⟩
    by_cases e : j = i
    ·subst e;have := a2 j p (Kk g);rw [this] at hq;cases hq;exact ⟨c, fun r hr => a1 r (KD hr)⟩
    ·exact a3 j q (by omega) hq
   ·have h : (if (flt S C T S' C' T' p).1 = 0 then srP S C T S' C' T' f ((bhd S C T S' C' T' p).foldl Bf ps) (i + 1) else (some p, ps)) = (none, ps') := h
    rw [if_neg c] at h;cases h
structure Good (S C T S' C' T' : D) (ps : List PK) : Prop where
 f : ∀ p, p ∈ ps → (flt S C T S' C' T' p).1 = 0
 b : ∀ p, p ∈ ps → ∀ r, r ∈ bhd S C T S' C' T' p → r ∈ ps
theorem Tb {ps : List PK} (h : res S C T S' C' T' P Q = (none, ps)) (hl : ps.length ≤ 4000) : Good S C T S' C' T' ps ∧ ∀ k n, k ∈ CS S C T → cvK S C S' C' P Q k = some n → (k, n) ∈ ps := by
 obtain ⟨a1, a2, a3⟩ := Lb h (by omega)
 refine ⟨⟨fun p hp => ?_, fun p hp r hr => ?_⟩, fun k n hk hn => ?_⟩
 ·obtain ⟨j, hj⟩ := List.getElem?_of_mem hp;exact (a3 j p (by omega) hj).1
 ·obtain ⟨j, hj⟩ := List.getElem?_of_mem hp;exact (a3 j p (by omega) hj).2 r hr
 ·refine a1 _ (KD (List.mem_filterMap.2 ⟨k, hk, ?_⟩));unfold WP;rw [hn];rfl
theorem Tc {p : PK} (h : (flt S C T S' C' T' p).1 = 0) :
  (∀ i, i ∈ prt T (enl S C T p.1) true → ∃ m, m ∈ enl S' C' T' p.2 ∧ alk T' m T i = true) ∧
  (∀ m, m ∈ prt T' (enl S' C' T' p.2) false → ∃ i, i ∈ enl S C T p.1 ∧ alk T i T' m = true) ∧
  (prt T (enl S C T p.1) false ≠ [] → prt T' (enl S' C' T' p.2) false ≠ []) := by
 unfold flt at h;cases e1 : lk T T' (prt T (enl S C T p.1) true) (prt T' (enl S' C' T' p.2) true) with
 | some s => rw [e1] at h; cases h
 | none =>
  rw [e1] at h;cases e2 : lk T' T (prt T' (enl S' C' T' p.2) false) (prt T (enl S C T p.1) false) with
  | some s => rw [e2] at h; cases h
  | none =>
   rw [e2] at h
   have L : ∀ {A B : D} {l m : List Nat}, lk A B l m = none → ∀ i, i ∈ l → ∃ j, j ∈ m ∧ alk A i B j = true := fun {A B l m} e i hi => by
    unfold lk at e;have := List.find?_eq_none.1 e i hi;have : m.any (alk A i B) = true := by simpa using this
    obtain ⟨j, j1, j2⟩ := List.any_eq_true.1 this;exact ⟨j, j1, j2⟩
   refine ⟨fun i hi => ?_, fun m hm => ?_, fun a b => ?_⟩
   ·obtain ⟨j, j1, j2⟩ := L e1 i hi;exact ⟨j, (List.mem_filter.1 j1).1, by rw [HY]; exact j2⟩
   ·obtain ⟨j, j1, j2⟩ := L e2 m hm;exact ⟨j, (List.mem_filter.1 j1).1, by rw [HY]; exact j2⟩
   ·have h : (if 0 < (prt T (enl S C T p.1) false).length ∧ (prt T' (enl S' C' T' p.2) false).length = 0 then ((3, 0) : Nat × Nat) else if (cl S p.1.1 1).toBool = (cl S' p.2.1 1).toBool then (0, 0) else (4, 0)).1 = 0 := h
    rw [if_pos ⟨List.length_pos_iff.2 a, by rw [b]; rfl⟩] at h
    cases h
theorem NW {i m : Nat} (h : alk T' m T i = true) : decide ((cl T' m 2).toInt = 2) = decide ((cl T i 2).toInt = 2) := by
 unfold alk at h;simp only [Bool.and_eq_true] at h;rw [dT h.1]
theorem Uq {p : PK} {i m : Nat} (hi : i ∈ prt T (enl S C T p.1) true) (hm : m ∈ enl S' C' T' p.2) (ha : alk T' m T i = true) : (nx S C T p.1 i, nx S' C' T' p.2 m) ∈ bhd S C T S' C' T' p := by
 refine List.mem_append_left _ (List.mem_flatMap.2 ⟨i, hi, List.mem_map.2 ⟨m, List.mem_filter.2 ⟨List.mem_filter.2 ⟨hm, ?_⟩, ?_⟩, rfl⟩⟩)
 ·have := (List.mem_filter.1 hi).2;unfold kp at this ⊢;rw [NW ha];exact this
 ·rw [HY];exact ha
theorem XE {p : PK} {i m : Nat} (hm : m ∈ prt T' (enl S' C' T' p.2) false) (hi : i ∈ enl S C T p.1) (ha : alk T i T' m = true) : (nx S C T p.1 i, nx S' C' T' p.2 m) ∈ bhd S C T S' C' T' p := by
 refine List.mem_append_right _ (List.mem_flatMap.2 ⟨m, hm, List.mem_map.2 ⟨i, List.mem_filter.2 ⟨List.mem_filter.2 ⟨hi, ?_⟩, ha⟩, rfl⟩⟩);have := (List.mem_filter.1 hm).2;unfold kp at this ⊢;rw [NW ha];exact this
end
end Ct
namespace Ct
open Go Go.AE
section
variable [An]
variable {v0 S C T v0' S' C' T' P Q ch B : D}
omit [An] in
theorem MN {pre : List Nat} {s : Nat} {r : Bool} : prt T (pre ++ [s]) r = prt T pre r ++ (if kp T r s then [s] else []) := by
 unfold prt;rw [List.filter_append];cases h : kp T r s <;> simp [h]
theorem OD {L : List Nat} {b b' : Bool} (hL : ∀ s ∈ L, s < len T) (hn : L.length < 1000) {i : Int} {t x t' x' : D} : ∀ (rem pre : List Nat), L = pre ++ rem →
  O5 ch (.int i) (Aw L) (.bool b) B (.bool b') (Aw (prt T pre true)) (.bool (prt T pre true).isEmpty) (.bool (!(prt T pre false).isEmpty)) (.int (pre.length : Nat)) v0 S C T v0' S' C' T' t x t' x' =
   IQ ch (.int i) B (.bool b') (Aw (prt T L true)) (.bool (prt T L true).isEmpty) AT (.bool true) (.bool (!(prt T L false).isEmpty)) (.int 0) v0 S C T v0' S' C' T' t x t' x'
 | [], pre, e => by
  rw [List.append_nil] at e;subst e;rw [X6, AQ, ifF (by omega)]
 | s :: rem, pre, e => by
  have g : L[pre.length]? = some s := by rw [e]; simp
  have l : L.length = pre.length + (rem.length + 1) := by rw [e]; simp
  have hs := hL s (by rw [e]; simp)
  have fl : (prt T pre true).length ≤ pre.length := List.length_filter_le _ _;have ih := OD (b := b) (b' := b') hL hn (i := i) (t := t) (x := x) (t' := t') (x' := x') rem (pre ++ [s]) (by rw [e]; simp)
  rw [List.length_append, List.length_singleton, MN, MN] at ih;rw [X6, AQ, ifT (by omega), ifF (by omega), Cv g, Ag, ifF (by omega), ifT (by omega), A9 (by omega), AQ]
  by_cases k1 : (cl T s 2).toInt = 2
  ·rw [ifT k1, ifT (by omega), JG]
   rw [if_pos (by unfold kp; simp [k1]), if_neg (by unfold kp; simp [k1]), List.append_nil, show (prt T pre true ++ [s]).isEmpty = false by simp] at ih
   exact ih
  ·rw [ifF k1];rw [if_neg (by unfold kp; simp [k1]), if_pos (by unfold kp; simp [k1]), List.append_nil, show (!(prt T pre false ++ [s]).isEmpty) = true by simp] at ih
   exact ih
theorem OL {L : List Nat} {b b' : Bool} (hL : ∀ s ∈ L, s < len T') (hn : L.length < 1000) {i : Int} {R : D} {cd : Bool} {t x t' x' : D} : ∀ (rem pre : List Nat), L = pre ++ rem →
  IQ ch (.int i) (Aw L) (.bool b) R (.bool b') (Aw (prt T' pre false)) (.bool (prt T' pre false).isEmpty) (.bool cd) (.int (pre.length : Nat)) v0 S C T v0' S' C' T' t x t' x' =
   IQ ch (.int i) (Aw L) (.bool b) R (.bool b') (Aw (prt T' L false)) (.bool (prt T' L false).isEmpty) (.bool cd) (.int (L.length : Nat)) v0 S C T v0' S' C' T' t x t' x'
 | [], pre, e => by
  rw [List.append_nil] at e;subst e;rfl
 | s :: rem, pre, e => by
  have g : L[pre.length]? = some s := by rw [e]; simp
  have l : L.length = pre.length + (rem.length + 1) := by rw [e]; simp
  have hs := hL s (by rw [e]; simp)
  have fl : (prt T' pre false).length ≤ pre.length := List.length_filter_le _ _;have ih := OL (b := b) (b' := b') hL hn (i := i) (R := R) (cd := cd) (t := t) (x := x) (t' := t') (x' := x') rem (pre ++ [s]) (by rw [e]; simp)
  rw [List.length_append, List.length_singleton, MN] at ih;rw [Yb (h0 := rfl) (h1 := rfl), AQ, ifT (by omega), ifF (by omega), Cv g, Ag, ifF (by omega), ifT (by omega), A9 (by omega), AQ]
  by_cases k1 : (cl T' s 2).toInt = 2
  ·rw [ifT k1];rw [if_neg (by unfold kp; simp [k1]), List.append_nil] at ih
   exact ih
  ·rw [ifF k1, ifT (by omega), JG]
   rw [if_pos (by unfold kp; simp [k1]), show (prt T' pre false ++ [s]).isEmpty = false by simp] at ih
   exact ih
def Nxt (S C S' C' : D) (ps : List PK) (t x t' x' : D) : Prop := ∃ p, p ∈ ps ∧ POk S C S' C' p ∧ Cg S C p.1 t x ∧ Cg S' C' p.2 t' x'
theorem WH {ps : List PK} {R A M : List Nat} {b b' b'' : Bool} (hR : R.length < 1000) (hA : A.length < 1000) {i : Nat} (hi : i < len ch) (hl : len ch ≤ 40) {cd : Bool} (hcd : cd = true → A ≠ []) {t x t' x' : D}
  (go : ∀ u y u' y', Nxt S C S' C' ps u y u' y' → GB ch (.int (i + 1 : Nat)) v0 S C T v0' S' C' T' u y u' y' = .row [.int 1, .bool true])
  (hr : ∀ s ∈ R, ∃ u y u' y', C8 v0 S C T t x (.int (s : Nat)) v0' S' C' T' t' x' (cl ch 0 0) = .row [.int 1, .bool true, u, y, u', y'] ∧ Nxt S C S' C' ps u y u' y')
  (ha : ∀ s ∈ A, ∃ u y u' y', C8 v0' S' C' T' t' x' (.int (s : Nat)) v0 S C T t x (cl ch 0 0) = .row [.int 1, .bool true, u', y', u, y] ∧ Nxt S C S' C' ps u y u' y') :
  IQ ch (.int (i : Nat)) (Aw M) (.bool b) (Aw R) (.bool b') (Aw A) (.bool b'') (.bool cd) (.int (M.length : Nat)) v0 S C T v0' S' C' T' t x t' x' = .row [.int 1, .bool true] := by
 have main : ∀ (X : D) (h : X = cond (decide ((IntKind.wrap .i64 ((len (Aw R) : Int) + (len (Aw A) : Int))) = 0)) (cond (decide ((sl (Eu) 0).toInt = 1)) (.row [.int 1, (.bool true)]) (.row [])) (
   cond (decide ((i : Int) < 0)) (.row []) (
   cond (decide ((i : Int) < len ch)) (
   cond (decide ((IntKind.wrap .u64 (IntKind.wrap .i64 ((len (Aw R) : Int) + (len (Aw A) : Int)))) = 0)) (.row []) (
   cond (decide ((IntKind.wrap .i64 (ari .rem .u64 (IntKind.wrap .u64 (cl ch i 0).toInt) (IntKind.wrap .u64 (IntKind.wrap .i64 ((len (Aw R) : Int) + (len (Aw A) : Int)))))) < (len (Aw R) : Int))) (
   cond (decide ((IntKind.wrap .i64 (ari .rem .u64 (IntKind.wrap .u64 (cl ch i 0).toInt) (IntKind.wrap .u64 (IntKind.wrap .i64 ((len (Aw R) : Int) + (len (Aw A) : Int)))))) < 0)) (.row []) (
   cond (decide (0 < (len ch : Int))) (
   cond (decide ((sl (C8 v0 S C T t x (cl (Aw R) (IntKind.wrap .i64 (ari .rem .u64 (IntKind.wrap .u64 (cl ch i 0).toInt) (IntKind.wrap .u64 (IntKind.wrap .i64 ((len (Aw R) : Int) + (len (Aw A) : Int)))))) 0) v0' S' C' T' t' x' (cl ch 0 0)) 0).toInt = 1)) (
   cond ((sl (C8 v0 S C T t x (cl (Aw R) (IntKind.wrap .i64 (ari .rem .u64 (IntKind.wrap .u64 (cl ch i 0).toInt) (IntKind.wrap .u64 (IntKind.wrap .i64 ((len (Aw R) : Int) + (len (Aw A) : Int)))))) 0) v0' S' C' T' t' x' (cl ch 0 0)) 1).toBool) (
   GB ch (.int (IntKind.wrap .i64 ((i : Int) + 1))) v0 S C T v0' S' C' T' (sl (C8 v0 S C T t x (cl (Aw R) (IntKind.wrap .i64 (ari .rem .u64 (IntKind.wrap .u64 (cl ch i 0).toInt) (IntKind.wrap .u64 (IntKind.wrap .i64 ((len (Aw R) : Int) + (len (Aw A) : Int)))))) 0) v0' S' C' T' t' x' (cl ch 0 0)) 2) (sl (C8 v0 S C T t x (cl (Aw R) (IntKind.wrap .i64 (ari .rem .u64 (IntKind.wrap .u64 (cl ch i 0).toInt) (IntKind.wrap .u64 (IntKind.wrap .i64 ((len (Aw R) : Int) + (len (Aw A) : Int)))))) 0) v0' S' C' T' t' x' (cl ch 0 0)) 3) (sl (C8 v0 S C T t x (cl (Aw R) (IntKind.wrap .i64 (ari .rem .u64 (IntKind.wrap .u64 (cl ch i 0).toInt) (IntKind.wrap .u64 (IntKind.wrap .i64 ((len (Aw R) : Int) + (len (Aw A) : Int)))))) 0) v0' S' C' T' t' x' (cl ch 0 0)) 4) (sl (C8 v0 S C T t x (cl (Aw R) (IntKind.wrap .i64 (ari .rem .u64 (IntKind.wrap .u64 (cl ch i 0).toInt) (IntKind.wrap .u64 (IntKind.wrap .i64 ((len (Aw R) : Int) + (len (Aw A) : Int)))))) 0) v0' S' C' T' t' x' (cl ch 0 0)) 5)) (
   .row [.int 1, (.bool false)])) (.row [])) (.row []))) (
   cond (decide ((IntKind.wrap .i64 ((IntKind.wrap .i64 (ari .rem .u64 (IntKind.wrap .u64 (cl ch i 0).toInt) (IntKind.wrap .u64 (IntKind.wrap .i64 ((len (Aw R) : Int) + (len (Aw A) : Int)))))) - (len (Aw R) : Int))) < 0)) (.row []) (
   cond (decide ((IntKind.wrap .i64 ((IntKind.wrap .i64 (ari .rem .u64 (IntKind.wrap .u64 (cl ch i 0).toInt) (IntKind.wrap .u64 (IntKind.wrap .i64 ((len (Aw R) : Int) + (len (Aw A) : Int)))))) - (len (Aw R) : Int))) < (len (Aw A) : Int))) (
   cond (decide (0 < (len ch : Int))) (
   cond (decide ((sl (C8 v0' S' C' T' t' x' (cl (Aw A) (IntKind.wrap .i64 ((IntKind.wrap .i64 (ari .rem .u64 (IntKind.wrap .u64 (cl ch i 0).toInt) (IntKind.wrap .u64 (IntKind.wrap .i64 ((len (Aw R) : Int) + (len (Aw A) : Int)))))) - (len (Aw R) : Int))) 0) v0 S C T t x (cl ch 0 0)) 0).toInt = 1)) (
   cond ((sl (C8 v0' S' C' T' t' x' (cl (Aw A) (IntKind.wrap .i64 ((IntKind.wrap .i64 (ari .rem .u64 (IntKind.wrap .u64 (cl ch i 0).toInt) (IntKind.wrap .u64 (IntKind.wrap .i64 ((len (Aw R) : Int) + (len (Aw A) : Int)))))) - (len (Aw R) : Int))) 0) v0 S C T t x (cl ch 0 0)) 1).toBool) (
   GB ch (.int (IntKind.wrap .i64 ((i : Int) + 1))) v0 S C T v0' S' C' T' (sl (C8 v0' S' C' T' t' x' (cl (Aw A) (IntKind.wrap .i64 ((IntKind.wrap .i64 (ari .rem .u64 (IntKind.wrap .u64 (cl ch i 0).toInt) (IntKind.wrap .u64 (IntKind.wrap .i64 ((len (Aw R) : Int) + (len (Aw A) : Int)))))) - (len (Aw R) : Int))) 0) v0 S C T t x (cl ch 0 0)) 4) (sl (C8 v0' S' C' T' t' x' (cl (Aw A) (IntKind.wrap .i64 ((IntKind.wrap .i64 (ari .rem .u64 (IntKind.wrap .u64 (cl ch i 0).toInt) (IntKind.wrap .u64 (IntKind.wrap .i64 ((len (Aw R) : Int) + (len (Aw A) : Int)))))) - (len (Aw R) : Int))) 0) v0 S C T t x (cl ch 0 0)) 5) (sl (C8 v0' S' C' T' t' x' (cl (Aw A) (IntKind.wrap .i64 ((IntKind.wrap .i64 (ari .rem .u64 (IntKind.wrap .u64 (cl ch i 0).toInt) (IntKind.wrap .u64 (IntKind.wrap .i64 ((len (Aw R) : Int) + (len (Aw A) : Int)))))) - (len (Aw R) : Int))) 0) v0 S C T t x (cl ch 0 0)) 2) (sl (C8 v0' S' C' T' t' x' (cl (Aw A) (IntKind.wrap .i64 ((IntKind.wrap .i64 (ari .rem .u64 (IntKind.wrap .u64 (cl ch i 0).toInt) (IntKind.wrap .u64 (IntKind.wrap .i64 ((len (Aw R) : Int) + (len (Aw A) : Int)))))) - (len (Aw R) : Int))) 0) v0 S C T t x (cl ch 0 0)) 3)) (
   .row [.int 1, (.bool false)])) (.row [])) (.row [])) (.row []))))) (.row [])))), X = .row [.int 1, .bool true] := by
  intro X h;rw [h, AQ, AQ, B8 (a := (R.length : Int) + (A.length : Int)) (by omega) (by omega), show ((R.length : Int) + (A.length : Int)) = ((R.length + A.length : Nat) : Int) by omega]
  by_cases n0 : R.length + A.length = 0
  ·rw [ifT (by omega), ifT Bm]
  rw [ifF (by omega), ifF (by omega), ifT (by omega), ifF (by rw [HO (by omega) (by omega)]; omega), A9 (by omega)]
  obtain ⟨j, j1, j2⟩ := PD (n := R.length + A.length) (by omega) (by omega) (cl ch i 0).toInt
  rw [j2];by_cases c : j < R.length
  ·rw [ifT (by omega), ifF (by omega), ifT (by omega)]
   have g : R[j]? = some R[j] := by simp [c]
   obtain ⟨u, y, u', y', e, nx⟩ := hr R[j] (List.getElem_mem c);rw [Cv g, e];exact go u y u' y' nx
  ·rw [ifF (by omega), B8 (a := (j : Int) - (R.length : Int)) (by omega) (by omega), show ((j : Int) - (R.length : Int)) = ((j - R.length : Nat) : Int) by omega, ifF (by omega), ifT (by omega), ifT (by omega)]
   have c' : j - R.length < A.length := by omega
   have g : A[j - R.length]? = some A[j - R.length] := by simp [c']
   obtain ⟨u, y, u', y', e, nx⟩ := ha A[j - R.length] (List.getElem_mem c');rw [Cv g, e];exact go u y u' y' nx
 have E := Yb ch (i : Int) (Aw M) b (Aw R) b' (Aw A) b'' cd (M.length : Nat) v0 S C T v0' S' C' T' t x t' x' rfl rfl;rw [AQ (l := M), ifF (by omega)] at E
 cases cd with
 | false => exact main _ E
 | true =>
  have ne := List.length_pos_iff.2 (hcd rfl);rw [cond_true, ifF (by rw [AQ]; omega)] at E
  exact main _ E
theorem YM (hR : Rk S C T) (hR' : Rk S' C' T') (hr : rok v0 S C T = true) (hr' : rok v0' S' C' T' = true) {ps : List PK} (hg : Good S C T S' C' T' ps) (hl : len ch ≤ 40) {by' : Int} (hb : cl ch 0 0 = .int by') : ∀ (n i : Nat), i + n = len ch → ∀ t x t' x', Nxt S C S' C' ps t x t' x' →
  GB ch (.int (i : Nat)) v0 S C T v0' S' C' T' t x t' x' = .row [.int 1, .bool true] := fun n => by
 induction n with
 | zero =>
  intro i e t x t' x' h;rw [XK, ifF (by omega), ifT Bm]
 | succ n ih =>
  intro i e t x t' x' h;obtain ⟨p, hp, ⟨ok, ok'⟩, hx, hx'⟩ := h;have ht := hR.t1;have ht' := hR'.t1;have l1 := DO (S := S) (C := C) (T := T) (k := p.1);have l1' := DO (S := S') (C := C') (T := T') (k := p.2);have l2 := BQ (r := true) hR (k := p.1);have l2' := BQ (r := false) hR' (k := p.2);obtain ⟨z1, z2, z3⟩ := Tc (hg.f p hp);rw [XK, ifT (by omega), MY hR hr ok hx, MY hR' hr' ok' hx']
  have e0 : ∀ a b c d : D, sl (.row [a, b, c, d]) 0 = a := fun _ _ _ _ => rfl
  have e1 : ∀ a b c d : D, sl (.row [a, b, c, d]) 1 = b := fun _ _ _ _ => rfl
  have e2 : ∀ a b c d : D, sl (.row [a, b, c, d]) 2 = c := fun _ _ _ _ => rfl
  have e3 : ∀ a b c d : D, sl (.row [a, b, c, d]) 3 = d := fun _ _ _ _ => rfl
  rw [e0, e0, e1, e1, e2, e2, e3, e3, ifT (by rfl), ifT (by rfl), ifT (by rfl), ifT (by rfl)]
  refine (OD (fun s h => (Bv h).1) (by omega) (enl S C T p.1) [] rfl).trans ?_
  refine (OL (fun s h => (Bv h).1) (by omega) (enl S' C' T' p.2) [] rfl).trans ?_
  refine WH (ps := ps) (by omega) (by omega) (by omega) hl (fun h => z3 (by simpa using h)) (fun u y u' y' h => ih (i + 1) (by omega) u y u' y' h) (fun s hs => ?_) (fun s hs => ?_)
  ·have hm : s ∈ enl S C T p.1 := (List.mem_filter.1 hs).1;rw [hb];obtain ⟨m, y, y', m1, m2, q, y1, y2⟩ := Vd hR hR' hr hr' ok ok' hx hx' hm (z1 s hs) by'
   exact ⟨_, _, _, _, q, _, hg.b p hp _ (Uq hs m1 m2), ⟨GI hR ok (Bv hm).1 (Bv hm).2, GI hR' ok' (Bv m1).1 (Bv m1).2⟩, y1, y2⟩
  ·have hm : s ∈ enl S' C' T' p.2 := (List.mem_filter.1 hs).1;rw [hb];obtain ⟨m, y, y', m1, m2, q, y1, y2⟩ := Vd hR' hR hr' hr ok' ok hx' hx hm (z2 s hs) by'
   exact ⟨_, _, _, _, q, _, hg.b p hp _ (XE hs m1 m2), ⟨GI hR ok (Bv m1).1 (Bv m1).2, GI hR' ok' (Bv hm).1 (Bv hm).2⟩, y2, y1⟩
end
end Ct
namespace Ct
open Go Go.AE
section
variable [An]
variable {v0 S C T v0' S' C' T' P Q ch : D}
omit [An] in
theorem TG (a b c d e f g h i j k : D) : sl (.row [a, b, c, d, e, f, g, h, i, j, k]) 0 = a ∧ sl (.row [a, b, c, d, e, f, g, h, i, j, k]) 9 = j ∧ sl (.row [a, b, c, d, e, f, g, h, i, j, k]) 10 = k := ⟨rfl, rfl, rfl⟩
theorem W3 (hT : Dk T) (hc : ∀ i : Nat, i < len C → ∃ m, cl C i 1 = .int m) (hS : len S ≤ 8) (hC : len C ≤ 5) (hTl : len T ≤ 20) : ∃ a b c, Mk v0 S C T = .row [.int 1, a, .bool b, .int c] := by
 cases r : rok v0 S C T with
 | false =>
  have p1 : DB v0 = .row [.int 1, .bool (nm v0)] := LW v0;have p3 : Je (.int (len C : Nat)) (.int 0) (.int 4) v0 S C T = .row [.int 1, .int (Vk C)] := Rb (by omega) v0 S T
  have p5 : Jf (.int (len S : Nat)) (.int 1) (.int 24) v0 S C T = .row [.int 1, .int (TD S)] := RJ (by omega) v0 C T
  have p7 : Jj (.int (len T : Nat)) (.int 0) (.int 80) v0 S C T = .row [.int 1, .int (TB v0 S C T)] := QR hT (by omega) (by omega) (by omega) v0
  unfold rok at r;rw [Vq (h0 := rfl), p1, p3, p5, p7];have e0 : ∀ a b : D, sl (.row [a, b]) 0 = a := fun _ _ => rfl
  have e1 : ∀ a b : D, sl (.row [a, b]) 1 = b := fun _ _ => rfl
  rw [e0, e0, e0, e0, e1, e1, e1, e1, ifT (by rfl), Ai, Ag, Ag, Ag]
  cases h1 : nm v0 with
  | false => exact ⟨_, _, _, cond_false _ _⟩
  | true =>
   rw [cond_true, ifT (by rfl)]
   by_cases h2 : Vk C < 0;rotate_left
   ·exact ⟨_, _, _, ifF h2⟩
   rw [ifT h2, ifT (by rfl)]
   by_cases h3 : TD S < 0;rotate_left
   ·exact ⟨_, _, _, ifF h3⟩
   rw [ifT h3, ifT (by rfl)]
   by_cases h4 : TB v0 S C T < 0;rotate_left
   ·exact ⟨_, _, _, ifF h4⟩
   simp [h1, h2, h3, h4] at r
 | true =>
  have hR := P4 r hc hT hS hTl;by_cases g : (CS S C T).length ≤ 2000
  ·obtain ⟨d, b, e, _⟩ := TA (v0 := v0) hR r g;exact ⟨_, _, _, e⟩
  ·obtain ⟨p1, ⟨a, p3, qa⟩, ⟨b, p5, qb⟩, ⟨c, p7, qc⟩⟩ := Iz r hR.tI hR.s1 (by omega) (by omega)
   have nf : 2000 < ((CS S C T).length : Int) := by omega
   refine ⟨AT, true, 7, ?_⟩;rw [Vq (h0 := Pc (v0 := v0) hR), p1, p3, p5, p7];simp only [As, Au, Ag, Ai, decide_true, cond_true, qa, qb, qc, nf]
theorem JH (F41 : ∃ a b c, Mk v0 S C T = .row [.int 1, a, .bool b, .int c]) {w1 w2 w3 w4 w5 w6 w7 w8 w9 w10 : D} (h : HC v0 S C T v0' S' C' T' P Q = .row [.int 1, w1, w2, w3, w4, w5, w6, w7, w8, w9, w10]) (n : ¬ w10.toInt = 0 ∨ w9.toBool = false)
  (c1 : ¬ 8 < (len S : Int)) (c2 : ¬ 20 < (len T : Int)) (c3 : ¬ 5 < (len C : Int)) (c4 : ¬ 8 < (len S' : Int)) (c5 : ¬ 20 < (len T' : Int)) (c6 : ¬ 5 < (len C' : Int)) (c7 : ¬ 30 < (len P : Int)) (c8 : ¬ 8 < (len Q : Int)) (c9 : ¬ 40 < (len ch : Int)) (c10 : ¬ (len ch : Int) < 1) : UF v0 S C T v0' S' C' T' P Q ch = .row [.int 1, .bool true] := by
 obtain ⟨a, b, c, h41⟩ := F41;obtain ⟨k1, k2, k3⟩ := TG (.int 1) w1 w2 w3 w4 w5 w6 w7 w8 w9 w10;have e0 : sl (.row [.int 1, a, .bool b, .int c]) 0 = .int 1 := rfl;rw [Fo (h0 := h41) (h1 := rfl), ifF c1, ifF c2, ifF c3, ifF c4, ifF c5, ifF c6, ifF c7, ifF c8, ifF c9, ifF c10, h, k1, k2, k3, e0, ifT (by rfl), ifT (by rfl)]
 by_cases z : w10.toInt = 0
 ·rcases n with n | n
  ·exact absurd z n
  ·rw [ifT z, n, cond_false, ifT Bm]
 ·rw [ifF z, ifT Bm]
theorem law (hT : Dk T) (hT' : Dk T') (hc : ∀ i : Nat, i < len C → ∃ m, cl C i 1 = .int m) (hc' : ∀ i : Nat, i < len C' → ∃ m, cl C' i 1 = .int m) (hQ : KI Q)
  (hch : ∀ i : Nat, i < len ch → ∃ m, cl ch i 0 = .int m) : UF v0 S C T v0' S' C' T' P Q ch = .row [.int 1, .bool true] := by
 by_cases c1 : 8 < (len S : Int)
 ·rw [Fo (h0 := rfl) (h1 := rfl), ifT c1, ifT Bm]
 by_cases c2 : 20 < (len T : Int)
 ·rw [Fo (h0 := rfl) (h1 := rfl), ifF c1, ifT c2, ifT Bm]
 by_cases c3 : 5 < (len C : Int)
 ·rw [Fo (h0 := rfl) (h1 := rfl), ifF c1, ifF c2, ifT c3, ifT Bm]
 by_cases c4 : 8 < (len S' : Int)
 ·rw [Fo (h0 := rfl) (h1 := rfl), ifF c1, ifF c2, ifF c3, ifT c4, ifT Bm]
 by_cases c5 : 20 < (len T' : Int)
 ·rw [Fo (h0 := rfl) (h1 := rfl), ifF c1, ifF c2, ifF c3, ifF c4, ifT c5, ifT Bm]
 by_cases c6 : 5 < (len C' : Int)
 ·rw [Fo (h0 := rfl) (h1 := rfl), ifF c1, ifF c2, ifF c3, ifF c4, ifF c5, ifT c6, ifT Bm]
 by_cases c7 : 30 < (len P : Int)
 ·rw [Fo (h0 := rfl) (h1 := rfl), ifF c1, ifF c2, ifF c3, ifF c4, ifF c5, ifF c6, ifT c7, ifT Bm]
 by_cases c8 : 8 < (len Q : Int)
 ·rw [Fo (h0 := rfl) (h1 := rfl), ifF c1, ifF c2, ifF c3, ifF c4, ifF c5, ifF c6, ifF c7, ifT c8, ifT Bm]
 by_cases c9 : 40 < (len ch : Int)
 ·rw [Fo (h0 := rfl) (h1 := rfl), ifF c1, ifF c2, ifF c3, ifF c4, ifF c5, ifF c6, ifF c7, ifF c8, ifT c9, ifT Bm]
 by_cases c10 : (len ch : Int) < 1
 ·rw [Fo (h0 := rfl) (h1 := rfl), ifF c1, ifF c2, ifF c3, ifF c4, ifF c5, ifF c6, ifF c7, ifF c8, ifF c9, ifT c10, ifT Bm]
 have F41 : ∃ a b c, Mk v0 S C T = .row [.int 1, a, .bool b, .int c] := W3 hT hc (by omega) (by omega) (by omega)
 have h10 := ZX (v0 := v0) (v1 := S) (v2 := C) (v3 := T) (v4 := v0') (v5 := S') (v6 := C') (v7 := T') (v8 := P) (v9 := Q) hT hT' (by omega) (by omega) (by omega) (by omega) (by omega) (by omega) (by omega) (by omega)
 obtain ⟨a, e, hce⟩ := WY (v0 := v0) (S := S) (C := C) (T := T) (v0' := v0') (S' := S') (C' := C') (T' := T') (P := P) (Q := Q);rw [hce] at h10;by_cases he : e = 0;rotate_left
 ·have h40 : HC v0 S C T v0' S' C' T' P Q = .row [.int 1, Do 0 0, AT, .bool true, Do 0 0, AT, .bool true, .int 0, .int 0, .bool false, .int e] := by
   rw [XW (h0 := rfl), h10];dsimp +instances only [As, Au, Ag, Ai];rw [ifT (by rfl), ifF he]
  exact JH F41 h40 (.inl he) c1 c2 c3 c4 c5 c6 c7 c8 c9 c10
 subst he;obtain ⟨r1, r2, hC⟩ := Zl (by omega) (by omega) hQ hce
 have hR := P4 r1 hc hT (by omega) (by omega)
 have hR' := P4 r2 hc' hT' (by omega) (by omega)
 rcases Zs hR hR' hC h10 with ⟨g, h40⟩ | ⟨g, h40⟩
 ·exact JH F41 h40 (.inl (by decide)) c1 c2 c3 c4 c5 c6 c7 c8 c9 c10
 cases c : res S C T S' C' T' P Q with
 | mk o ps =>
  rw [c] at h40;cases o with
  | some p =>
   obtain ⟨y, y', b0, b1, b2, b3, h40⟩ := h40;exact JH F41 h40 (.inr rfl) c1 c2 c3 c4 c5 c6 c7 c8 c9 c10
  | none =>
   have h40 : _ = _ := h40;by_cases q : 4000 < (ps.length : Int)
   ·rw [ifT q] at h40;exact JH F41 h40 (.inl (by decide)) c1 c2 c3 c4 c5 c6 c7 c8 c9 c10
   rw [ifF q] at h40;obtain ⟨hg, hf⟩ := Tb c (by omega)
   obtain ⟨d, b, h41, hd⟩ := TA (v0 := v0) hR r1 g;obtain ⟨k1, k2, k3⟩ := TG (.int 1) (Do 0 0) AT (.bool true) (Do 0 0) AT (.bool true) (.int 0) (.int 0) (.bool true) (.int 0);have e0 : sl (.row [.int 1, d, .bool b, .int 0]) 0 = .int 1 := rfl;have e1 : sl (.row [.int 1, d, .bool b, .int 0]) 1 = d := rfl;have e3 : sl (.row [.int 1, d, .bool b, .int 0]) 3 = .int 0 := rfl;rw [Fo (h0 := h41) (h1 := rfl), ifF c1, ifF c2, ifF c3, ifF c4, ifF c5, ifF c6, ifF c7, ifF c8, ifF c9, ifF c10, h40, k1, k2, k3, e0, e1, e3, ifT (by rfl), ifT (by rfl), ifT (by rfl), Ai, cond_true, ifT (by rfl), hd.l]
   by_cases z : (CS S C T).length = 0
   ·rw [ifT (by omega), ifT Bm]
   obtain ⟨j, j1, j2⟩ := PD (n := (CS S C T).length) (by omega) (by omega) (cl ch 0 0).toInt
   rw [ifF (by omega), ifF (by rw [HO (by omega) (by omega)]; omega), j2, ifF (by omega), ifT (by omega)]
   have gk : (CS S C T)[j]? = some (CS S C T)[j] := by simp [j1]
   have mk := List.getElem_mem j1;generalize (CS S C T)[j] = k at gk mk;have ok : Ek S C (CS S C T) := JD hR fun k hk => by rw [List.mem_singleton.1 hk]; exact JF hR
   have hx := hd.c j k gk;obtain ⟨t', x', b', e', q43, hn⟩ := YU (v0 := v0) (v0' := v0') hR hR' hC h10 (ok k mk) hx;have f0 : sl (.row [.int 1, t', x', .bool b', .int e']) 0 = .int 1 := rfl;have f1 : sl (.row [.int 1, t', x', .bool b', .int e']) 1 = t' := rfl;have f2 : sl (.row [.int 1, t', x', .bool b', .int e']) 2 = x' := rfl;have f3 : sl (.row [.int 1, t', x', .bool b', .int e']) 3 = .bool b' := rfl;have f4 : sl (.row [.int 1, t', x', .bool b', .int e']) 4 = .int e' := rfl;rw [q43, f0, f1, f2, f3, f4, ifT (by rfl), Ag, Ai]
   by_cases ee : e' = 0;rotate_left
   ·rw [ifF ee, ifT Bm]
   rw [ifT ee];obtain ⟨n, n1, n2⟩ := hn ee;obtain ⟨m, hm⟩ := hch 0 (by omega)
   exact YM hR hR' r1 r2 hg (by omega) hm (len ch - 1) 1 (by omega) _ _ _ _ ⟨(k, n), hf k n mk n1, ⟨ok k mk, QE hR hR' hC n1⟩, hx, n2.ni⟩
end
end Ct

