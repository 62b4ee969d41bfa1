/- What is proved: what the plain functions over data say, whose trees the text before writes out: the law ConvertSafe answers true. Conditions: those that each theorem states. -/
import Derived.Test.YtpcdkfgmpekeeaaGreatConvertSafePlainA
set_option linter.unusedVariables false
set_option linter.unusedSectionVars false
set_option linter.unusedSimpArgs false
namespace Cs
open Go Go.AE
structure Rk (S C T : D) : Prop where
 s0 : 0 < len S
 s1 : len S < 1000
 c1 : len C ≤ 4
 t1 : len T ≤ 20
 sid : ∀ i : Nat, i < len S → fd S (cl S i 0) = i
 cid : ∀ i : Nat, i < len C → fd C (cl C i 0) = i
 lim : ∀ i : Nat, i < len C → 1 ≤ (cl C i 1).toInt ∧ (cl C i 1).toInt ≤ 1000
 cne : ∀ i : Nat, i < len C → eqC (cl C i 0) 0 0 = false
 cI : ∀ i : Nat, i < len C → ∃ m, cl C i 1 = .int m
 tI : B4 T
 frm : ∀ i : Nat, i < len T → 0 ≤ fd S (cl T i 0)
 to : ∀ i : Nat, i < len T → 0 ≤ fd S (cl T i 1)
 ctr : ∀ i : Nat, i < len T → (eqC (cl T i 5) 0 0 = true ∧ fd C (cl T i 5) = -1) ∨ (eqC (cl T i 5) 0 0 = false ∧ 0 ≤ fd C (cl T i 5) ∧ 0 ≤ (cl T i 6).toInt ∧ (cl T i 6).toInt ≤ (cl T i 7).toInt ∧
  (cl T i 7).toInt ≤ (cl C (fd C (cl T i 5)) 1).toInt ∧ -1000 ≤ (cl T i 8).toInt ∧ (cl T i 8).toInt ≤ 1000 ∧ 0 ≤ (cl T i 6).toInt + (cl T i 8).toInt ∧ (cl T i 7).toInt + (cl T i 8).toInt ≤ (cl C (fd C (cl T i 5)) 1).toInt)
section
variable [Ar]
theorem bx {v : D} (h : nm v = true) : 1 ≤ Co v := by
 unfold nm at h;rw [ZI] at h;by_cases c : (Co v : Int) < 1
 ·rw [ifT c] at h;cases h
 ·omega
theorem Wn {v0 S C T : D} (h : rok v0 S C T = true) (hc : ∀ i : Nat, i < len C → ∃ m, cl C i 1 = .int m) (ht : B4 T) (hS : len S ≤ 8) (hT : len T ≤ 20) : Rk S C T := by
 unfold rok at h;simp only [Bool.and_eq_true] at h;obtain ⟨_, h1, h2, h3⟩ := h;unfold Q4 at h1;unfold PU at h2;unfold TY at h3;by_cases c1 : 4 < (len C : Int)
 ·rw [ifT c1] at h1; cases h1
 rw [ifF c1] at h1;by_cases c2 : (len S : Int) < 1
 ·rw [ifT c2] at h2; cases h2
 rw [ifF c2, ifF (by omega)] at h2
 rw [ifF (by omega)] at h3
 have B1 : ∀ i, i < len C → IV C i = false := fun i hi => Cx (k := len C) (i := 0) (by omega) (.inr ⟨dT h1, by omega⟩)
 have B2 : ∀ i, i < len S → IS S i = false := fun i hi => Cx (k := len S) (i := 0) (by omega) (.inr ⟨dT h2, by omega⟩)
 have B3 : ∀ i, i < len T → FL v0 S C T i = false := fun i hi => Cx (k := len T) (i := 0) (by omega) (.inr ⟨dT h3, by omega⟩)
 have E1 : ∀ i, i < len C → nm (cl C i 0) = true ∧ fd C (cl C i 0) = i ∧ 1 ≤ (cl C i 1).toInt ∧ (cl C i 1).toInt ≤ 1000 := fun i hi => by
  have b := B1 i hi;unfold IV at b;simp only [Bool.or_eq_false_iff, Bool.not_eq_false'] at b;have s := Kn hi;have b2 := dF b.1.1.2;have b3 := dF b.1.2;have b4 := dF b.2;exact ⟨b.1.1.1, by omega, by omega, by omega⟩
 have ne : ∀ i, i < len C → eqC (cl C i 0) 0 0 = false := fun i hi => by
  rw [E5];have := bx (E1 i hi).1;exact decide_eq_false (by omega)
 refine ⟨by omega, by omega, by omega, hT, fun i hi => ?_, fun i hi => (E1 i hi).2.1, fun i hi => (E1 i hi).2.2, ne, hc, ht, fun i hi => ?_, fun i hi => ?_, fun i hi => ?_⟩
 ·have b := B2 i hi;unfold IS at b;simp only [Bool.or_eq_false_iff] at b;have s := Kn hi;have b2 := dF b.1.1.2;omega
 ·have b := B3 i hi;unfold FL at b;simp only [Bool.or_eq_false_iff] at b;exact Int.not_lt.1 (dF b.1)
 ·have b := B3 i hi;unfold FL at b;simp only [Bool.or_eq_false_iff] at b;exact Int.not_lt.1 (dF b.2.1)
 ·have b := B3 i hi;unfold FL at b;simp only [Bool.or_eq_false_iff] at b;have b := b.2.2.2.2;unfold Zj at b;cases hz : eqC (cl T i 5) 0 0
  ·right;rw [hz] at b;simp only [cond_false] at b;by_cases d1 : fd C (cl T i 5) < 0
   ·rw [ifT d1] at b; cases b
   rw [ifF d1] at b;by_cases d2 : (cl T i 6).toInt < 0
   ·rw [ifT d2] at b; cases b
   rw [ifF d2] at b;by_cases d3 : (cl T i 7).toInt < (cl T i 6).toInt
   ·rw [ifT d3] at b; cases b
   rw [ifF d3] at b;by_cases d4 : (cl T i 8).toInt < -1000
   ·rw [ifT d4] at b; cases b
   rw [ifF d4] at b;by_cases d5 : 1000 < (cl T i 8).toInt
   ·rw [ifT d5] at b; cases b
   rw [ifF d5] at b;by_cases d6 : (cl C (fd C (cl T i 5)) 1).toInt < (cl T i 7).toInt
   ·rw [ifT d6] at b; cases b
   rw [ifF d6] at b;have lt := BL (l := C) (key := cl T i 5);have l := E1 (fd C (cl T i 5)).toNat (by omega)
   rw [show (((fd C (cl T i 5)).toNat : Nat) : Int) = fd C (cl T i 5) by omega] at l
   rw [BI (by omega) (by omega), BI (by omega) (by omega)] at b
   by_cases d7 : (cl T i 6).toInt + (cl T i 8).toInt < 0
   ·rw [ifT d7] at b; cases b
   rw [ifF d7] at b;by_cases d8 : (cl C (fd C (cl T i 5)) 1).toInt < (cl T i 7).toInt + (cl T i 8).toInt
   ·rw [ifT d8] at b; cases b
   exact ⟨rfl, by omega, by omega, by omega, by omega, by omega, by omega, by omega, by omega⟩
  ·left;refine ⟨rfl, ?_⟩;rcases SV (l := C) (key := cl T i 5) with g | g
   ·exact g
   exfalso
   have lt := BL (l := C) (key := cl T i 5);have s := Ln g
   have e : eqC (cl C (fd C (cl T i 5)) 0) 0 0 = eqC (cl T i 5) 0 0 := by
    rw [E5, E5];unfold Co;rw [Ei.1 s]
   have l := ne (fd C (cl T i 5)).toNat (by omega)
   rw [show (((fd C (cl T i 5)).toNat : Nat) : Int) = fd C (cl T i 5) by omega] at l
   rw [e, hz] at l;cases l
end
abbrev Key := Int × Int × Int × Int × Int
def kc (k : Key) : Nat → Int
 | 0 => k.2.1
 | 1 => k.2.2.1
 | 2 => k.2.2.2.1
 | 3 => k.2.2.2.2
 | _ => 0
structure KOk (S C : D) (k : Key) : Prop where
 s0 : 0 ≤ k.1
 s1 : k.1 < len S
 v0 : ∀ j : Nat, j < len C → 0 ≤ kc k j ∧ kc k j ≤ (cl C j 1).toInt
 v1 : ∀ j : Nat, len C ≤ j → kc k j = 0
def en (S C T : D) (k : Key) (s : Nat) : Bool := D.strEq (cl T s 0) (cl S k.1 0) && (decide (fd C (cl T s 5) < 0) || (!decide (kc k (fd C (cl T s 5)).toNat < (cl T s 6).toInt) && !decide ((cl T s 7).toInt < kc k (fd C (cl T s 5)).toNat)))
def nv (C T : D) (k : Key) (s j : Nat) : Int := if fd C (cl T s 5) = j then kc k j + (cl T s 8).toInt else kc k j
def nx (S C T : D) (k : Key) (s : Nat) : Key := (fd S (cl T s 1), nv C T k s 0, nv C T k s 1, nv C T k s 2, nv C T k s 3)
theorem MG {S C T : D} {k : Key} {s j : Nat} (h : j < 4) : kc (nx S C T k s) j = nv C T k s j := by
 match j, h with
 | 0, _ => rfl
 | 1, _ => rfl
 | 2, _ => rfl
 | 3, _ => rfl
theorem W8 {k : Key} {j : Nat} (h : 4 ≤ j) : kc k j = 0 := by
 match j, h with
 | j + 4, _ => rfl
theorem Za {k k' : Key} (h : k.1 = k'.1) (hv : ∀ j, j < 4 → kc k j = kc k' j) : k = k' := by
 obtain ⟨a, b, c, d, e⟩ := k;obtain ⟨a', b', c', d', e'⟩ := k';have h0 := hv 0 (by omega)
 have h1 := hv 1 (by omega)
 have h2 := hv 2 (by omega)
 have h3 := hv 3 (by omega)
 simp only [kc] at h0 h1 h2 h3;simp only at h;subst h h0 h1 h2 h3;rfl
theorem LX {S C T : D} (hR : Rk S C T) {k : Key} (hk : KOk S C k) {s : Nat} (hs : s < len T) (he : en S C T k s = true) : KOk S C (nx S C T k s) := by
 have hc1 := hR.c1;have lt := BL (l := S) (key := cl T s 1);have ltc := BL (l := C) (key := cl T s 5);refine ⟨hR.to s hs, lt, fun j hj => ?_, fun j hj => ?_⟩
 ·rw [MG (by omega)]
  unfold nv;have b := hk.v0 j hj;by_cases c : fd C (cl T s 5) = j
  ·rw [if_pos c];unfold en at he;simp only [Bool.and_eq_true, Bool.or_eq_true, Bool.not_eq_true', decide_eq_true_eq] at he;obtain ⟨_, he⟩ := he;rcases he with he | ⟨h1, h2⟩
   ·omega
   ·have h1 := dF h1;have h2 := dF h2;rw [c] at h1 h2;rcases hR.ctr s hs with ⟨_, q⟩ | ⟨_, q1, q2, q3, q4, q5, q6, q7, q8⟩
    ·omega
    ·rw [c] at q4 q8;have e : (j : Int).toNat = j := by omega
     rw [e] at h1 h2;omega
  ·rw [if_neg c];exact b
 ·by_cases c : j < 4
  ·rw [MG c];unfold nv;rw [if_neg (by omega)]
   exact hk.v1 j hj
  ·exact W8 (by omega)
end Cs
namespace Cs
open Go Go.AE
def bkR (C : D) (g : Nat → Int) (i : Nat) : List D := (List.range i).map fun (j : Nat) => .row [cl C j 0, cl C j 1, .int (g j)]
def bk (C : D) (g : Nat → Int) (i : Nat) : D := .slc (decide (i = 0)) (bkR C g i)
theorem Y6 {C : D} {g : Nat → Int} {n j : Nat} {h : j < (bkR C g n).length} : (bkR C g n)[j]'h = .row [cl C j 0, cl C j 1, .int (g j)] := by simp [bkR]
theorem B0 {C : D} {g : Nat → Int} {i : Nat} : len (bk C g i) = i := by unfold bk bkR len; simp [D.rows]
theorem Lj {C : D} {g : Nat → Int} {i j c : Nat} (h : j < i) : cl (bk C g i) j c = ([cl C j 0, cl C j 1, .int (g j)] : List D).getD c default := by
 show ((((List.range i).map fun (j : Nat) => D.row [cl C j 0, cl C j 1, .int (g j)])[j]?).getD default).cells.getD c default = _
 rw [List.getElem?_map, List.getElem?_range h];rfl
theorem kI {C : D} {g : Nat → Int} {i : Nat} (h : g i = 0) {m : Int} (hm : cl C i 1 = .int m) : ad (bk C g i) (.row [cl C i 0, cl C i 1, .int 0]) = bk C g (i + 1) := by
 show D.slc false (bkR C g i ++ [_]) = D.slc (decide (i + 1 = 0)) (bkR C g (i + 1));unfold bkR;rw [List.range_succ, List.map_append, decide_eq_false (by omega)]
 simp [h]
theorem U8 {C key : D} {g : Nat → Int} : fd (bk C g (len C)) key = fd C key := by
 unfold fd;rw [B0];refine CW fun j _ hj => ?_
 show D.strEq (cl (bk C g (len C)) j 0) key = D.strEq (cl C j 0) key;rw [Lj (by omega)]
 rfl
theorem VG {C : D} {g : Nat → Int} {n i : Nat} {x : Int} (h : i < n) : upd (bk C g n) i 2 (.int x) = bk C (fun j => if j = i then x else g j) n := by
 show D.slc (decide (n = 0)) (List.modify (bkR C g n) i _) = .slc (decide (n = 0)) (bkR C _ n)
 congr 1
 refine List.ext_getElem (by simp [bkR]) fun j h1 h2 => ?_
 rw [List.getElem_modify];simp only [Y6];by_cases q : i = j
 ·rw [if_pos q, if_pos q.symm];rfl
 ·rw [if_neg q, if_neg (fun c : j = i => q c.symm)]
theorem FU {C : D} {g g' : Nat → Int} {n : Nat} (h : ∀ j, j < n → g j = g' j) : bk C g n = bk C g' n := by
 unfold bk bkR
 congr 1
 refine List.map_congr_left fun j hj => ?_
 rw [h j (List.mem_range.1 hj)]
section
variable [Ar]
variable {S C T v0 : D}
theorem Ov {l : D} {b : Bool} (hn : len l < 4611686018427387904) (k : D) : DC l (.bool b) k = .row [.int 1, .int (fd l k)] := (nM ..).trans (Cl (F := fun i => RY l (.bool b) (.int i) k) hn fun i => mj ..)
theorem cD (hR : Rk S C T) : Vf C = .row [.int 2, bk C (fun _ => 0) (len C), .bool (decide (len C = 0))] := by
 have hc := hR.c1;rw [j4, ifF (by omega)]
 have L := DH (F := fun i => Jt C (.int (i : Nat)) (bk C (fun _ => 0) i) (.bool (decide (i = 0)))) (n := len C) (bad := fun _ => false) (B := fun _ => .row []) (fun i hi => by
  show Jt C (.int (i : Nat)) (bk C (fun _ => 0) i) (.bool (decide (i = 0))) = Jt C (.int (i + 1 : Nat)) (bk C (fun _ => 0) (i + 1)) (.bool (decide (i + 1 = 0)))
  have l := hR.lim i hi;obtain ⟨m, hm⟩ := hR.cI i hi
  have hf : fd (bk C (fun _ => 0) i) (cl C i 0) < 0 := by
   have : fd (bk C (fun _ => 0) i) (cl C i 0) = -1 := by
    unfold fd;rw [B0];refine Cu fun j _ hj => ?_
    rw [Lj (by omega)]
    have n := Cx (p := fun j => D.strEq (cl C j 0) (cl C i 0)) (k := len C) (i := 0) (j := j) (by omega) (.inl (by have := hR.cid i hi; unfold fd at this; omega))
    exact n
   omega
  rw [Z1, ifT (by omega), ifF (by omega), hR.cne i hi, cond_false, ifF (by omega), ifF (by omega), Ov (by rw [B0]; omega)]
  dsimp +instances only [Am, Al, Ac];rw [ifT rfl, ifT hf, B0, ifT (by omega), AG (by omega), kI (g := fun _ => 0) rfl hm, decide_eq_false (by omega)])
 refine (show Jt C (.int 0) AB (.bool true) = _ from L).trans ?_
 show cond _ (Jt C (.int (len C : Nat)) (bk C (fun _ => 0) (len C)) (.bool (decide (len C = 0)))) _ = _
 rw [Cu (fun _ _ _ => rfl), ifT (by omega), Z1, ifF (by omega)]
theorem KD (hR : Rk S C T) {k : Key} (hk : KOk S C k) {vals : D} {b : Bool} (hl : len vals = len C) (hv : ∀ j : Nat, j < len C → cl vals j 0 = .int (kc k j)) : FE (.bool true) (bk C (fun _ => 0) (len C)) (.bool b) vals = .row [.int 1, .int 0, bk C (kc k) (len C)] := by
 have hc := hR.c1;rw [gd, cond_true, B0, ifT (by omega)]
 have L := DH (F := fun i => Jk vals (.int (i : Nat)) (.bool true) (bk C (fun _ => 0) (len C)) (.bool b)) (n := len C) (bad := fun _ => false) (B := fun _ => .row []) (fun i hi => by
  show Jk vals (.int (i : Nat)) (.bool true) (bk C (fun _ => 0) (len C)) (.bool b) = Jk vals (.int (i + 1 : Nat)) (.bool true) (bk C (fun _ => 0) (len C)) (.bool b)
  have q := hk.v0 i hi;rw [ao, ifT (by omega), ifF (by omega), hv i hi, Ac, ifF (by omega), B0, ifT (by omega), Lj hi]
  show cond (decide ((cl C i 1).toInt < _)) _ _ = _;rw [ifF (by omega), AG (by omega)])
 refine (show Jk vals (.int 0) (.bool true) (bk C (fun _ => 0) (len C)) (.bool b) = _ from L).trans ?_
 show cond _ (Jk vals (.int (len C : Nat)) (.bool true) (bk C (fun _ => 0) (len C)) (.bool b)) _ = _
 rw [Cu (fun _ _ _ => rfl), ifT (by omega), ao, ifF (by omega), hl]
 have L := DH (F := fun i => Jl vals (.int (len C : Nat)) (.int (i : Nat)) (.bool true) (bk C (fun j => if j < i then kc k j else 0) (len C)) (.bool b)) (n := len C) (bad := fun _ => false) (B := fun _ => .row []) (fun i hi => by
  show Jl vals (.int (len C : Nat)) (.int (i : Nat)) (.bool true) (bk C (fun j => if j < i then kc k j else 0) (len C)) (.bool b) = Jl vals (.int (len C : Nat)) (.int (i + 1 : Nat)) (.bool true) (bk C (fun j => if j < i + 1 then kc k j else 0) (len C)) (.bool b)
  rw [ZP, ifT (by omega), ifF (by omega), ifT (by omega), B0, ifT (by omega), hv i hi, VG hi, AG (by omega)]
  congr 1
  refine FU fun j hj => ?_
  by_cases c : j = i
  ·rw [if_pos c, if_pos (by omega), c]
  ·rw [if_neg c];by_cases d : j < i
   ·rw [if_pos d, if_pos (by omega)]
   ·rw [if_neg d, if_neg (by omega)])
 refine ((by
  have e : bk C (fun j => if j < 0 then kc k j else 0) (len C) = bk C (fun _ => 0) (len C) := FU fun j _ => if_neg (by omega)
  rw [← e];exact L) : Jl vals (.int (len C : Nat)) (.int 0) (.bool true) (bk C (fun _ => 0) (len C)) (.bool b) = cond (decide (fdG (fun _ => false) (len C) 0 < 0)) (Jl vals (.int (len C : Nat)) (.int (len C : Nat)) (.bool true) (bk C (fun j => if j < len C then kc k j else 0) (len C)) (.bool b)) (.row [])).trans ?_
 rw [Cu (fun _ _ _ => rfl), ifT (by omega), ZP, ifF (by omega), FU (g' := kc k) fun j hj => if_pos hj]
theorem VZ (hR : Rk S C T) {k : Key} (hk : KOk S C k) : JE (.int k.1) (.int k.2.1) (.int k.2.2.1) (.int k.2.2.2.1) (.int k.2.2.2.2) v0 S C T = .row [.int 2, .int (len C : Nat), .bool (decide (len C = 0)), bk C (kc k) (len C)] := by
 have hc := hR.c1;rw [ft (h0 := rfl)];simp only [cD hR, Am, Al, Ac, Int.reduceEq, decide_false, decide_true, cond_true, cond_false, B0];by_cases n0 : (len C : Int) = 0
 ·rw [ifT n0, KD hR hk (by rw [BA]; omega) (fun j hj => by omega)]
  rfl
 rw [ifF n0];by_cases n1 : (len C : Int) = 1
 ·rw [ifT n1, KD hR hk (by rw [Bp, BA]; omega) (fun j hj => by
   match j with
   | 0 => rfl
   | j + 1 => omega)]
  rfl
 rw [ifF n1];by_cases n2 : (len C : Int) = 2
 ·rw [ifT n2, KD hR hk (by rw [Bp, Bp, BA]; omega) (fun j hj => by
   match j with
   | 0 => rfl
   | 1 => rfl
   | j + 2 => omega)]
  rfl
 rw [ifF n2];by_cases n3 : (len C : Int) = 3
 ·rw [ifT n3, KD hR hk (by rw [Bp, Bp, Bp, BA]; omega) (fun j hj => by
   match j with
   | 0 => rfl
   | 1 => rfl
   | 2 => rfl
   | j + 3 => omega)]
  rfl
 rw [ifF n3];have n4 : (len C : Int) = 4 := by omega
 rw [ifT n4, KD hR hk (by rw [Bp, Bp, Bp, Bp, BA]; omega) (fun j hj => by
   match j with
   | 0 => rfl
   | 1 => rfl
   | 2 => rfl
   | 3 => rfl
   | j + 4 => omega)]
 rfl
theorem bz (hR : Rk S C T) {g : Nat → Int} {b : Bool} {key : D} (h : 0 ≤ fd C key) : HO (.bool true) (bk C g (len C)) (.bool b) key = .row [.int 1, .int (g (fd C key).toNat), .int 0] := by
 have hc := hR.c1;have lt := BL (l := C) (key := key);rw [oZ, cond_true, Ov (by rw [B0]; omega), U8]
 dsimp +instances only [Am, Al, Ac];rw [ifT rfl, ifF (by omega), B0, ifT (by omega)]
 have e : fd C key = ((fd C key).toNat : Nat) := by omega
 have q := Lj (C := C) (g := g) (i := len C) (j := (fd C key).toNat) (c := 2) (by omega)
 rw [← e] at q;rw [q];rfl
def al (C T : D) (k : Key) (s : Nat) : Bool := decide (fd C (cl T s 5) < 0) || (!decide (kc k (fd C (cl T s 5)).toNat < (cl T s 6).toInt) && !decide ((cl T s 7).toInt < kc k (fd C (cl T s 5)).toNat))
theorem VO (hR : Rk S C T) {k : Key} (hk : KOk S C k) {b : Bool} {s : Nat} (hs : s < len T) : LM (.bool true) (bk C (kc k) (len C)) (.bool b) (cl T s 0) (cl T s 1) (cl T s 2) (cl T s 3) (cl T s 4) (cl T s 5) (cl T s 6) (cl T s 7) (cl T s 8) = .row [.int 1, .bool (al C T k s), .int 0] := by
 have hc := hR.c1;obtain ⟨⟨n2, h2⟩, ⟨n6, h6⟩, ⟨n7, h7⟩, ⟨n8, h8⟩, _⟩ := hR.tI s hs;have ct := hR.ctr s hs;rw [h6, h7, h8] at ct;rw [h2, h6, h7, h8, oi, cond_true];simp only [Ac] at ct ⊢;rcases ct with ⟨z, q⟩ | ⟨z, q1, q2, q3, q4, q5, q6, q7, q8⟩
 ·rw [z, cond_true];unfold al;rw [q];rfl
 ·have lt := BL (l := C) (key := cl T s 5);have e : fd C (cl T s 5) = ((fd C (cl T s 5)).toNat : Nat) := by omega
  have kv := hk.v0 (fd C (cl T s 5)).toNat (by omega)
  rw [← e] at kv;rw [z, cond_false];have lim := hR.lim (fd C (cl T s 5)).toNat (by omega)
  rw [← e] at lim;simp only [bz hR q1, Ov (l := bk C (kc k) (len C)) (by rw [B0]; omega), U8, Am, Al, Ac, decide_true, cond_true, B0]
  have cq := Lj (C := C) (g := kc k) (i := len C) (j := (fd C (cl T s 5)).toNat) (c := 1) (by omega)
  rw [← e] at cq;rw [cq];show cond (decide (fd C (cl T s 5) < 0)) _ _ = _;rw [ifF (by omega), ifT (by omega)]
  have A : al C T k s = (!decide (kc k (fd C (cl T s 5)).toNat < n6) && !decide (n7 < kc k (fd C (cl T s 5)).toNat)) := by
   unfold al;rw [h6, h7, decide_eq_false (show ¬ fd C (cl T s 5) < 0 by omega), Bool.false_or]
   rfl
  rw [A];by_cases a1 : kc k (fd C (cl T s 5)).toNat < n6
  ·rw [ifT (by exact a1), decide_eq_true a1]
   rfl
  rw [ifF (by exact a1), decide_eq_false a1]
  by_cases a2 : n7 < kc k (fd C (cl T s 5)).toNat
  ·rw [ifT (by exact a2), decide_eq_true a2]
   rfl
  rw [ifF (by exact a2), decide_eq_false a2, BI (by omega) (by omega), ifF (by omega)]
  show D.row [.int 1, .bool (!decide (IntKind.wrap .i64 ((cl C (fd C (cl T s 5)) 1).toInt - kc k (fd C (cl T s 5)).toNat) < n8)), .int 0] = _;rw [BI (by omega) (by omega), decide_eq_false (by omega)]
  rfl
end
end Cs
namespace Cs
open Go Go.AE
def AR (l : List Nat) : D := .slc l.isEmpty (l.map fun s => .row [.int (s : Nat)])
theorem AN {l : List Nat} : len (AR l) = l.length := by unfold AR len; simp [D.rows]
theorem OD {l : List Nat} {s : Nat} : ad (AR l) (.row [.int s]) = AR (l ++ [s]) := by
 unfold AR ad;simp [D.rows]
theorem Da {l : List Nat} {j s : Nat} (h : l[j]? = some s) : cl (AR l) j 0 = .int s := by
 show (((l.map fun (s : Nat) => D.row [.int s])[j]?).getD default).cells.getD 0 default = _
 rw [List.getElem?_map, h];rfl
theorem NV {F : List Nat → Nat → D} {p : Nat → Bool} {n : Nat} : ∀ {k i : Nat} {acc : List Nat}, i + k = n → acc.length ≤ i → (∀ (acc : List Nat) (j : Nat), j < n → acc.length ≤ j → F acc j = cond (p j) (F (acc ++ [j]) (j + 1)) (F acc (j + 1))) → F acc i = F (acc ++ (List.range' i k).filter p) n
 | 0, i, acc => fun h _ _ => by
  have : i = n := by omega
  subst this;simp
 | k + 1, i, acc => fun h ha hs => by
  rw [hs acc i (by omega) ha, List.range'_succ]
  cases q : p i
  ·rw [cond_false, NV (k := k) (i := i + 1) (by omega) (by omega) hs, List.filter_cons_of_neg (by simp [q])]
  ·rw [cond_true, NV (k := k) (i := i + 1) (by omega) (by simp; omega) hs, List.filter_cons_of_pos (by simp [q]), List.append_assoc]
   rfl
def enl (S C T : D) (k : Key) : List Nat := (List.range' 0 (len T)).filter (en S C T k)
theorem IE {S C T : D} {k : Key} {s : Nat} (h : s ∈ enl S C T k) : s < len T ∧ en S C T k s = true := by
 have := List.mem_filter.1 h;have m := List.mem_range'.1 this.1;exact ⟨by omega, this.2⟩
theorem Dx {S C T : D} {k : Key} : (enl S C T k).length ≤ len T := by
 have := List.length_filter_le (en S C T k) (List.range' 0 (len T));unfold enl;simpa using this
section
variable [Ar]
variable {S C T v0 : D}
theorem Rt (hR : Rk S C T) {k : Key} (hk : KOk S C k) : JV (.int k.1) (.int k.2.1) (.int k.2.2.1) (.int k.2.2.2.1) (.int k.2.2.2.2) v0 S C T = .row [.int 1, AR (enl S C T k), .bool (enl S C T k).isEmpty] := by
 have hc := hR.c1;have ht := hR.t1;have h0 := hk.s0;have h1 := hk.s1;rw [kD, VZ hR hk];dsimp +instances only [Am, Al, Ac];rw [ifF (by omega), ifT (by rfl)]
 have G := NV (F := fun acc i => Gt (AR acc) (.bool acc.isEmpty) T (.int (i : Nat)) (.int k.1) (.int k.2.1) (.int k.2.2.1) (.int k.2.2.2.1) (.int k.2.2.2.2) v0 S C (.int (len C : Nat)) (.bool (decide (len C = 0))) (bk C (kc k) (len C))) (p := en S C T k) (n := len T) (k := len T) (i := 0) (acc := []) (by omega) (Nat.le_refl _) (fun acc j hj ha => by
  show Gt (AR acc) (.bool acc.isEmpty) T (.int (j : Nat)) (.int k.1) (.int k.2.1) (.int k.2.2.1) (.int k.2.2.2.1) (.int k.2.2.2.2) v0 S C (.int (len C : Nat)) (.bool (decide (len C = 0))) (bk C (kc k) (len C)) =
   cond (en S C T k j) (Gt (AR (acc ++ [j])) (.bool (acc ++ [j]).isEmpty) T (.int (j + 1 : Nat)) (.int k.1) (.int k.2.1) (.int k.2.2.1) (.int k.2.2.2.1) (.int k.2.2.2.2) v0 S C (.int (len C : Nat)) (.bool (decide (len C = 0))) (bk C (kc k) (len C)))
    (Gt (AR acc) (.bool acc.isEmpty) T (.int (j + 1 : Nat)) (.int k.1) (.int k.2.1) (.int k.2.2.1) (.int k.2.2.2.1) (.int k.2.2.2.2) v0 S C (.int (len C : Nat)) (.bool (decide (len C = 0))) (bk C (kc k) (len C)))
  rw [Zu (h0 := rfl), ifT (by omega), ifF (by omega), B0, ifT (by rfl), VO hR hk hj]
  dsimp +instances only [Am, Al, Ac, Af];rw [ifT (by rfl), ifF (by omega), ifT (by omega), AG (by omega), AN, ifT (by omega), OD]
  have e : en S C T k j = (D.strEq (cl T j 0) (cl S k.1 0) && al C T k j) := rfl;rw [e];have e2 : (acc ++ [j]).isEmpty = false := by simp
  rw [e2];cases al C T k j <;> cases D.strEq (cl T j 0) (cl S k.1 0) <;> rfl)
 have G : Gt AB (.bool true) T (.int 0) (.int k.1) (.int k.2.1) (.int k.2.2.1) (.int k.2.2.2.1) (.int k.2.2.2.2) v0 S C (.int (len C : Nat)) (.bool (decide (len C = 0))) (bk C (kc k) (len C)) = Gt (AR (enl S C T k)) (.bool (enl S C T k).isEmpty) T (.int (len T : Nat)) (.int k.1) (.int k.2.1) (.int k.2.2.1) (.int k.2.2.2.1) (.int k.2.2.2.2) v0 S C (.int (len C : Nat)) (.bool (decide (len C = 0))) (bk C (kc k) (len C)) := G;rw [G, Zu (h0 := rfl), ifF (by omega)]
structure Cf (S C : D) (k : Key) (t x : D) : Prop where
 t : D.strEq (cl S k.1 0) t = true
 l : len x = len C
 v : ∀ j : Nat, j < len C → (cl x j 0).toInt = kc k j
 w : Wd x 1
theorem Lh (hR : Rk S C T) {k : Key} (hk : KOk S C k) {t x : D} (hx : Cf S C k t x) : BV v0 S C T t x = .row [.int 1, AR (enl S C T k), .bool (enl S C T k).isEmpty] := by
 have hc := hR.c1;have ht := hR.t1;rw [jm]
 have G := NV (F := fun acc i => EJ (AR acc) (.bool acc.isEmpty) (.int (i : Nat)) v0 S C T t x) (p := en S C T k) (n := len T) (k := len T) (i := 0) (acc := []) (by omega) (Nat.le_refl _) (fun acc j hj ha => by
  show EJ (AR acc) (.bool acc.isEmpty) (.int (j : Nat)) v0 S C T t x = cond (en S C T k j) (EJ (AR (acc ++ [j])) (.bool (acc ++ [j]).isEmpty) (.int (j + 1 : Nat)) v0 S C T t x) (EJ (AR acc) (.bool acc.isEmpty) (.int (j + 1 : Nat)) v0 S C T t x);have e2 : (acc ++ [j]).isEmpty = false := by simp
  have e : D.strEq (cl T j 0) (cl S k.1 0) = D.strEq (cl T j 0) t := by
   rw [AJ, Cq hx.t, AJ]
  have lt := BL (l := C) (key := cl T j 5);rw [ZS, ifT (by omega), ifF (by omega), I4 (by omega)]
  dsimp +instances only [Am, Al, Ac, Af];rw [ifT (by rfl), AG (by omega), AN, OD, e2]
  unfold en;rw [e];cases D.strEq (cl T j 0) t
  ·rfl
  rw [cond_true, Bool.true_and];by_cases c : fd C (cl T j 5) < 0
  ·rw [ifT c, ifT (by omega), decide_eq_true c]
   rfl
  rw [ifF c, decide_eq_false c, Bool.false_or, hx.l, ifT (by omega)]
  have v := hx.v (fd C (cl T j 5)).toNat (by omega)
  rw [show (((fd C (cl T j 5)).toNat : Nat) : Int) = fd C (cl T j 5) by omega] at v
  rw [v];by_cases c1 : kc k (fd C (cl T j 5)).toNat < (cl T j 6).toInt
  ·rw [ifT c1, decide_eq_true c1];rfl
  rw [ifF c1, decide_eq_false c1];by_cases c2 : (cl T j 7).toInt < kc k (fd C (cl T j 5)).toNat
  ·rw [ifT c2, decide_eq_true c2];rfl
  rw [ifF c2, decide_eq_false c2, ifT (by omega)]
  rfl)
 have G : EJ AB (.bool true) (.int 0) v0 S C T t x = EJ (AR (enl S C T k)) (.bool (enl S C T k).isEmpty) (.int (len T : Nat)) v0 S C T t x := G;rw [G, ZS, ifF (by omega)]
end
end Cs
namespace Cs
open Go Go.AE
theorem Ph {ks : List Kd} {k : List D} : ∀ (rs l : List D), D7 ks k rs l.length = fdG (fun i => B6 ks (((l ++ rs).getD i default).cells) k) rs.length l.length
 | [], l => rfl
 | r :: rs, l => by
  rw [D7, List.length_cons, fdG];have e : ((l ++ r :: rs).getD l.length default) = r := by simp
  have i2 := Ph (ks := ks) (k := k) rs (l ++ [r]);rw [List.length_append, List.append_assoc] at i2;have i2 : D7 ks k rs (l.length + 1) = fdG (fun i => B6 ks (((l ++ r :: rs).getD i default).cells) k) rs.length (l.length + 1) := i2
  rw [e, i2];cases B6 ks r.cells k <;> rfl
theorem SZ {ks : List Kd} {a k : D} : mIx ks a k = fdG (fun i => B6 ks ((a.rows.getD i default).cells) k.cells) (len a) 0 := Ph (ks := ks) (k := k.cells) a.rows []
abbrev K5 : List Kd := [.int .i64, .int .i64, .int .i64, .int .i64, .int .i64]
def FK (k : Key) : List D := [.int k.1, .int k.2.1, .int k.2.2.1, .int k.2.2.2.1, .int k.2.2.2.2]
def Bn (ks : List Key) : D := .slc ks.isEmpty (ks.map fun k => .row (FK k))
def Cv (ks : List Key) : D := .slc false (ks.map fun k => .row (FK k ++ [.bool true]))
theorem E6 {ks : List Key} : len (Bn ks) = ks.length := by unfold Bn len; simp [D.rows]
theorem Ug {ks : List Key} : len (Cv ks) = ks.length := by unfold Cv len; simp [D.rows]
theorem Bq {ks : List Key} {j c : Nat} {k : Key} (h : ks[j]? = some k) : cl (Bn ks) j c = (FK k).getD c default := by
 show (((ks.map fun k => D.row (FK k))[j]?).getD default).cells.getD c default = _
 rw [List.getElem?_map, h];rfl
theorem YU {a b : Key} {l : List D} : B6 K5 (FK a ++ l) (FK b) = decide (a = b) := by
 obtain ⟨a1, a2, a3, a4, a5⟩ := a;obtain ⟨b1, b2, b3, b4, b5⟩ := b;simp only [K5, FK, List.cons_append, List.nil_append, B6, Ac, Bool.and_true];rw [Bool.eq_iff_iff];simp
theorem TP {ks : List Key} {k : Key} : mIx K5 (Cv ks) (.row (FK k)) = fdG (fun i => decide (ks[i]? = some k)) ks.length 0 := by
 rw [SZ, Ug];refine CW fun j _ hj => ?_
 show B6 K5 ((((ks.map fun k => D.row (FK k ++ [.bool true]))[j]?).getD default).cells) (FK k) = _
 have hj' : j < ks.length := by omega
 rw [List.getElem?_map, List.getElem?_eq_getElem hj'];show B6 K5 (FK ks[j] ++ [.bool true]) (FK k) = _;rw [YU];simp
def EM (ks : List Key) (k : Key) : List Key := if k ∈ ks then ks else ks ++ [k]
theorem W1 {ks : List Key} {k : Key} : (EM ks k).length ≤ ks.length + 1 := by
 unfold EM;split
 ·omega
 ·simp
theorem YY {ks : List Key} {k : Key} : ks.length ≤ (EM ks k).length := by
 unfold EM;split
 ·omega
 ·simp
def Cr (S C T : D) (k : Key) (ks : List Key) (l : List Nat) : List Key := l.foldl (fun ks s => EM ks (nx S C T k s)) ks
theorem LO {S C T : D} {k : Key} : ∀ {l : List Nat} {ks : List Key}, (Cr S C T k ks l).length ≤ ks.length + l.length
 | [], ks => by simp [Cr]
 | s :: l, ks => by
  have := LO (S := S) (C := C) (T := T) (k := k) (l := l) (ks := EM ks (nx S C T k s));have := W1 (ks := ks) (k := nx S C T k s);simp only [Cr, List.foldl_cons, List.length_cons] at *;omega
theorem Kk {S C T : D} {k : Key} : ∀ {l : List Nat} {ks : List Key}, ks.length ≤ (Cr S C T k ks l).length
 | [], ks => by simp [Cr]
 | s :: l, ks => by
  have := Kk (S := S) (C := C) (T := T) (k := k) (l := l) (ks := EM ks (nx S C T k s));have := YY (ks := ks) (k := nx S C T k s);simp only [Cr, List.foldl_cons] at *;omega
theorem Uf {S C T : D} {k : Key} {l : List Nat} {ks : List Key} {s : Nat} : Cr S C T k ks (l ++ [s]) = EM (Cr S C T k ks l) (nx S C T k s) := by
 simp [Cr]
def EH (g : Nat → Int) (i : Nat) : D := .slc (decide (i = 0)) ((List.range i).map fun (j : Nat) => .row [.int (g j)])
theorem KF {g : Nat → Int} {i : Nat} : len (EH g i) = i := by unfold EH len; simp [D.rows]
theorem H9 {g : Nat → Int} {i j : Nat} (h : j < i) : cl (EH g i) j 0 = .int (g j) := by
 show ((((List.range i).map fun (j : Nat) => D.row [.int (g j)])[j]?).getD default).cells.getD 0 default = _
 rw [List.getElem?_map, List.getElem?_range h];rfl
theorem Yx {g : Nat → Int} {i : Nat} : ad (EH g i) (.row [.int (g i)]) = EH g (i + 1) := by
 show D.slc false (_ ++ _) = D.slc (decide (i + 1 = 0)) _;rw [List.range_succ, List.map_append, decide_eq_false (by omega)]
 rfl
section
variable [Ar]
variable {S C T v0 : D}
theorem Wb {ks : List Key} {k : Key} (hl : ks.length < 1048576) : D8 (Bn ks) (.bool ks.isEmpty) (Cv ks) (.int k.1) (.int k.2.1) (.int k.2.2.1) (.int k.2.2.2.1) (.int k.2.2.2.2) = .row [.int 1, Bn (EM ks k), .bool (EM ks k).isEmpty, Cv (EM ks k)] := by
 rw [iX];have e : D.row [.int k.1, .int k.2.1, .int k.2.2.1, .int k.2.2.2.1, .int k.2.2.2.2] = .row (FK k) := rfl;rw [e, TP, E6];by_cases c : k ∈ ks
 ·obtain ⟨j, hj, hjk⟩ := List.getElem_of_mem c;have q := Hi (p := fun i => decide (ks[i]? = some k)) (k := ks.length) (i := 0) (j := j) (by omega) (by omega) (decide_eq_true (by rw [List.getElem?_eq_getElem hj, hjk]))
  have lt := D6 (p := fun i => decide (ks[i]? = some k)) (k := ks.length) (i := 0)
  have ea : EM ks k = ks := if_pos c;rw [ifF (by omega), ea]
  have cb : ∀ i : Int, 0 ≤ i → i < ks.length → cl (Cv ks) i 5 = .bool true := fun i h0 h1 => by
   show (((ks.map fun k => D.row (FK k ++ [.bool true]))[i.toNat]?).getD default).cells.getD 5 default = _
   rw [List.getElem?_map, List.getElem?_eq_getElem (by omega)]
   rfl
  rw [cb _ q.1 (by omega)]
  rfl
 ·have q : fdG (fun i => decide (ks[i]? = some k)) ks.length 0 = -1 := Cu fun j _ hj => decide_eq_false fun h => c (List.mem_of_getElem? h)
  have ea : EM ks k = ks ++ [k] := if_neg c;rw [ifT (by omega), ifT (by omega), ea]
  have e1 : ad (Bn ks) (.row (FK k)) = Bn (ks ++ [k]) := by
   unfold Bn ad;simp [D.rows]
  have e2 : ad (Cv ks) (.row [.int k.1, .int k.2.1, .int k.2.2.1, .int k.2.2.2.1, .int k.2.2.2.2, .bool true]) = Cv (ks ++ [k]) := by
   unfold Cv ad;simp [D.rows, FK]
  rw [e1, e2];simp
theorem bq (hR : Rk S C T) {k : Key} (hk : KOk S C k) {b : Bool} {s : Nat} (hs : s < len T) (he : en S C T k s = true) : Vd (.bool true) (bk C (kc k) (len C)) (.bool b) (cl T s 0) (cl T s 1) (cl T s 2) (cl T s 3) (cl T s 4) (cl T s 5) (cl T s 6) (cl T s 7) (cl T s 8) = .row [.int 1, .int 0, bk C (nv C T k s) (len C)] := by
 have hc := hR.c1;obtain ⟨⟨n2, h2⟩, ⟨n6, h6⟩, ⟨n7, h7⟩, ⟨n8, h8⟩, _⟩ := hR.tI s hs;have ct := hR.ctr s hs;have A := VO hR hk (b := b) hs
 have ea : al C T k s = true := by
  unfold en at he;simp only [Bool.and_eq_true] at he;exact he.2
 rw [ea] at A;have kn := hk.v0;have hk2 := LX hR hk hs he;rw [h2, h6, h7, h8] at A;rw [h2, h6, h7, h8, iN, A];dsimp +instances only [Am, Al, Ac, Af];rw [ifT (by rfl), ifT (by rfl), cond_true]
 rcases ct with ⟨z, q⟩ | ⟨z, q1, _⟩
 ·rw [z, cond_true]
  have : bk C (kc k) (len C) = bk C (nv C T k s) (len C) := FU fun j _ => by
   unfold nv;rw [if_neg (by omega)]
  rw [this]
 ·have lt := BL (l := C) (key := cl T s 5);rw [z, cond_false, Ov (by rw [B0]; omega), U8]
  dsimp +instances only [Am, Al, Ac, Af];rw [ifT (by rfl), ifF (by omega), B0, ifT (by omega)]
  have e : fd C (cl T s 5) = ((fd C (cl T s 5)).toNat : Nat) := by omega
  have cq := Lj (C := C) (g := kc k) (i := len C) (j := (fd C (cl T s 5)).toNat) (c := 2) (by omega)
  rw [← e] at cq;rw [cq];have u := VG (C := C) (g := kc k) (n := len C) (i := (fd C (cl T s 5)).toNat) (x := IntKind.wrap .i64 (kc k (fd C (cl T s 5)).toNat + n8)) (by omega)
  rw [← e] at u;refine (congrArg (fun x => D.row [.int 1, .int 0, x]) u).trans ?_
  show D.row [.int 1, .int 0, _] = D.row [.int 1, .int 0, _]
  have : (bk C (fun j => if j = (fd C (cl T s 5)).toNat then IntKind.wrap .i64 (kc k (fd C (cl T s 5)).toNat + n8) else kc k j) (len C)) = bk C (nv C T k s) (len C) := FU fun j hj => by
   unfold nv;by_cases c : j = (fd C (cl T s 5)).toNat
   ·have v := hk2.v0 j hj;rw [MG (by omega)] at v
    have l := hR.lim j hj;unfold nv at v;rw [if_pos (by omega), h8, Ac] at v
    rw [if_pos c, if_pos (by omega), h8, Ac, ← c, BI (by omega) (by omega)]
   ·rw [if_neg c, if_neg (by omega)]
  rw [this]
theorem dM {g : Nat → Int} {n : Nat} (hn : n ≤ 4) : H8 AB (.bool true) (ct Aw (bk C g n)) (.bool false) = .row [.int 1, EH g n, .bool (decide (n = 0))] := by
 have ec : ∀ j : Nat, j < n → cl (ct Aw (bk C g n)) j 2 = .int (g j) := fun j hj => Lj (C := C) (g := g) (i := n) (j := j) (c := 2) hj
 have el : len (ct Aw (bk C g n)) = n := B0;rw [pw]
 have L := DH (F := fun i => JN (ct Aw (bk C g n)) (.bool false) (.int (i : Nat)) (EH g i) (.bool (decide (i = 0)))) (n := n) (bad := fun _ => false) (B := fun _ => .row []) (fun i hi => by
  show JN (ct Aw (bk C g n)) (.bool false) (.int (i : Nat)) (EH g i) (.bool (decide (i = 0))) = JN (ct Aw (bk C g n)) (.bool false) (.int (i + 1 : Nat)) (EH g (i + 1)) (.bool (decide (i + 1 = 0)));rw [Zy, el, ifT (by omega), ifF (by omega), KF, ifT (by omega), ec i hi, Yx, AG (by omega), decide_eq_false (show ¬ i + 1 = 0 by omega)])
 refine (show JN (ct Aw (bk C g n)) (.bool false) (.int 0) AB (.bool true) = cond _ (JN (ct Aw (bk C g n)) (.bool false) (.int (n : Nat)) (EH g n) (.bool (decide (n = 0)))) _ from L).trans ?_
 rw [Cu (fun _ _ _ => rfl), ifT (by omega), Zy, el, ifF (by omega)]
end
end Cs
namespace Cs
open Go Go.AE
section
variable [Ar]
variable {S C T v0 : D}
theorem We (hR : Rk S C T) {k : Key} (hk : KOk S C k) {s : Nat} (hs : s < len T) (he : en S C T k s = true) : G9 (.int k.1) (.int k.2.1) (.int k.2.2.1) (.int k.2.2.2.1) (.int k.2.2.2.2) v0 S C T (.int (s : Nat)) = .row (.int 1 :: FK (nx S C T k s)) := by
 have hc := hR.c1;have hs1 := hR.s1;have nk := (LX hR hk hs he).v1;have F20 := bq hR hk (b := decide (len C = 0)) hs he;have F21 := dM (C := C) (g := nv C T k s) (n := len C) hc;have z : ∀ j : Nat, len C ≤ j → j < 4 → nv C T k s j = 0 := fun j h1 h2 => by rw [← MG h2]; exact nk j h1
 rw [iA (h0 := VZ hR hk) (h1 := F20) (h2 := F21), R5 (v0 := S) (by omega)]
 dsimp +instances only [Am, Al, Ac, Af];rw [Bool.false_and, F21];dsimp +instances only [Am, Al, Ac, Af];rw [ifF (by omega), ifT (by rfl), ifF (by omega), ifT (by omega), B0, B0, ifT (by rfl), ifT (by rfl), ifT (by rfl), KF]
 by_cases n0 : (len C : Int) = 0
 ·rw [cT (decide_eq_true (by omega))]
  show _ = D.row [.int 1, .int (fd S (cl T s 1)), .int (nv C T k s 0), .int (nv C T k s 1), .int (nv C T k s 2), .int (nv C T k s 3)];rw [z 0 (by omega) (by omega), z 1 (by omega) (by omega), z 2 (by omega) (by omega), z 3 (by omega) (by omega)]
 rw [cF (decide_eq_false (by omega)), ifT (by rfl), ifT (by omega), ifT (by rfl)]
 show _ = D.row [.int 1, .int (fd S (cl T s 1)), .int (nv C T k s 0), .int (nv C T k s 1), .int (nv C T k s 2), .int (nv C T k s 3)];have c0 := H9 (g := nv C T k s) (i := len C) (j := 0);have c1 := H9 (g := nv C T k s) (i := len C) (j := 1);have c2 := H9 (g := nv C T k s) (i := len C) (j := 2);have c3 := H9 (g := nv C T k s) (i := len C) (j := 3);by_cases n4 : (len C : Int) < 4;rotate_left
 ·rw [ifF n4, show cl (EH (nv C T k s) (len C)) 0 0 = _ from c0 (by omega), show cl (EH (nv C T k s) (len C)) 1 0 = _ from c1 (by omega), show cl (EH (nv C T k s) (len C)) 2 0 = _ from c2 (by omega), show cl (EH (nv C T k s) (len C)) 3 0 = _ from c3 (by omega)]
 rw [ifT n4, ifF n0];by_cases n1 : (len C : Int) = 1
 ·rw [ifT n1, show cl (EH (nv C T k s) (len C)) 0 0 = _ from c0 (by omega), z 1 (by omega) (by omega), z 2 (by omega) (by omega), z 3 (by omega) (by omega)]
 rw [ifF n1];by_cases n2 : (len C : Int) = 2
 ·rw [ifT n2, show cl (EH (nv C T k s) (len C)) 0 0 = _ from c0 (by omega), show cl (EH (nv C T k s) (len C)) 1 0 = _ from c1 (by omega), z 2 (by omega) (by omega), z 3 (by omega) (by omega)]
 rw [ifF n2];have n3 : (len C : Int) = 3 := by omega
 rw [ifT n3, show cl (EH (nv C T k s) (len C)) 0 0 = _ from c0 (by omega), show cl (EH (nv C T k s) (len C)) 1 0 = _ from c1 (by omega), show cl (EH (nv C T k s) (len C)) 2 0 = _ from c2 (by omega), z 3 (by omega) (by omega)]
theorem cN (hR : Rk S C T) {k : Key} (hk : KOk S C k) {ks : List Key} (hl : ks.length < 100000) : G5 (.int k.1) (.int k.2.1) (.int k.2.2.1) (.int k.2.2.2.1) (.int k.2.2.2.2) (Bn ks) (.bool ks.isEmpty) (Cv ks) v0 S C T =
  .row [.int 1, Bn (Cr S C T k ks (enl S C T k)), .bool (Cr S C T k ks (enl S C T k)).isEmpty, Cv (Cr S C T k ks (enl S C T k))] := by
 have ht := hR.t1;have hle := Dx (S := S) (C := C) (T := T) (k := k);rw [oC, Rt hR hk];dsimp +instances only [Am, Al, Ac, Af];rw [ifT (by rfl), AN]
 have L := DH (F := fun i => Jx (AR (enl S C T k)) (.bool (enl S C T k).isEmpty) (.int ((enl S C T k).length : Nat)) (.int (i : Nat)) (Bn (Cr S C T k ks ((enl S C T k).take i))) (.bool (Cr S C T k ks ((enl S C T k).take i)).isEmpty) (Cv (Cr S C T k ks ((enl S C T k).take i))) v0 S C T (.int k.1) (.int k.2.1) (.int k.2.2.1) (.int k.2.2.2.1) (.int k.2.2.2.2)) (n := (enl S C T k).length) (bad := fun _ => false) (B := fun _ => .row []) (fun i hi => by
  show Jx (AR (enl S C T k)) (.bool (enl S C T k).isEmpty) (.int ((enl S C T k).length : Nat)) (.int (i : Nat)) (Bn (Cr S C T k ks ((enl S C T k).take i))) (.bool (Cr S C T k ks ((enl S C T k).take i)).isEmpty) (Cv (Cr S C T k ks ((enl S C T k).take i))) v0 S C T (.int k.1) (.int k.2.1) (.int k.2.2.1) (.int k.2.2.2.1) (.int k.2.2.2.2) =
   Jx (AR (enl S C T k)) (.bool (enl S C T k).isEmpty) (.int ((enl S C T k).length : Nat)) (.int (i + 1 : Nat)) (Bn (Cr S C T k ks ((enl S C T k).take (i + 1)))) (.bool (Cr S C T k ks ((enl S C T k).take (i + 1))).isEmpty) (Cv (Cr S C T k ks ((enl S C T k).take (i + 1)))) v0 S C T (.int k.1) (.int k.2.1) (.int k.2.2.1) (.int k.2.2.2.1) (.int k.2.2.2.2)
  have hg : (enl S C T k)[i]? = some ((enl S C T k)[i]) := List.getElem?_eq_getElem hi;have hm := IE (List.getElem_mem hi);have hr := LO (S := S) (C := C) (T := T) (k := k) (l := (enl S C T k).take i) (ks := ks);have htk : ((enl S C T k).take i).length ≤ i := by simp; omega
  rw [List.take_add_one, hg, Option.toList_some, Uf, aw (h0 := rfl), ifT (by omega), ifF (by omega), AN, ifT (by omega), Da hg, We hR hk hm.1 hm.2]
  have e : D.row (.int 1 :: FK (nx S C T k (enl S C T k)[i])) = .row [.int 1, .int (nx S C T k (enl S C T k)[i]).1, .int (nx S C T k (enl S C T k)[i]).2.1, .int (nx S C T k (enl S C T k)[i]).2.2.1, .int (nx S C T k (enl S C T k)[i]).2.2.2.1, .int (nx S C T k (enl S C T k)[i]).2.2.2.2] := rfl;rw [e];dsimp +instances only [Am, Al, Ac, Af];rw [Wb (by omega)]
  dsimp +instances only [Am, Al, Ac, Af];rw [ifT (by rfl), ifT (by rfl), AG (by omega)])
 refine (show Jx (AR (enl S C T k)) (.bool (enl S C T k).isEmpty) (.int ((enl S C T k).length : Nat)) (.int 0) (Bn ks) (.bool ks.isEmpty) (Cv ks) v0 S C T (.int k.1) (.int k.2.1) (.int k.2.2.1) (.int k.2.2.2.1) (.int k.2.2.2.2) = cond _ (Jx (AR (enl S C T k)) (.bool (enl S C T k).isEmpty) (.int ((enl S C T k).length : Nat)) (.int ((enl S C T k).length : Nat)) (Bn (Cr S C T k ks ((enl S C T k).take (enl S C T k).length))) (.bool (Cr S C T k ks ((enl S C T k).take (enl S C T k).length)).isEmpty) (Cv (Cr S C T k ks ((enl S C T k).take (enl S C T k).length))) v0 S C T (.int k.1) (.int k.2.1) (.int k.2.2.1) (.int k.2.2.2.1) (.int k.2.2.2.2)) _ from L).trans ?_
 rw [Cu (fun _ _ _ => rfl), ifT (by omega), List.take_length, aw (h0 := rfl), ifF (by omega)]
def DQ (S C : D) (ks : List Key) : Prop := ∀ k ∈ ks, KOk S C k
theorem SF (hR : Rk S C T) {k : Key} (hk : KOk S C k) : ∀ {l : List Nat} {ks : List Key}, (∀ s ∈ l, s < len T ∧ en S C T k s = true) → DQ S C ks → DQ S C (Cr S C T k ks l)
 | [], ks, _, h => by simpa [Cr] using h
 | s :: l, ks, hl, h => by
  have hm := hl s (List.mem_cons_self ..)
  have := SF hR hk (l := l) (ks := EM ks (nx S C T k s)) (fun s hs => hl s (List.mem_cons_of_mem _ hs)) (by
   unfold EM;split
   ·exact h
   ·intro x hx;rcases List.mem_append.1 hx with q | q
    ·exact h x q
    ·rw [List.mem_singleton.1 q];exact LX hR hk hm.1 hm.2)
  simpa [Cr] using this
def Pv (S C T : D) (ks : List Key) (k : Key) : List Key := Cr S C T k ks (enl S C T k)
theorem Oz (hR : Rk S C T) {k : Key} (hk : KOk S C k) {ks : List Key} (h : DQ S C ks) : DQ S C (Pv S C T ks k) := SF hR hk (fun s hs => IE hs) h
def FM (S C T : D) : Nat → List Key → Nat → List Key
 | 0, ks, _ => ks
 | f + 1, ks, i => match ks[i]? with
  | some k => FM S C T f (Pv S C T ks k) (i + 1)
  | none => ks
theorem Sy : ∀ {f : Nat} {ks : List Key} {i : Nat}, ks.length ≤ (FM S C T f ks i).length
 | 0, ks, i => Nat.le_refl _
 | f + 1, ks, i => by
  rw [FM];split
  ·rename_i k _;exact Nat.le_trans Kk (Sy (f := f))
  ·exact Nat.le_refl _
theorem Ou (hR : Rk S C T) : ∀ {f : Nat} {ks : List Key} {i : Nat}, DQ S C ks → DQ S C (FM S C T f ks i)
 | 0, ks, i, h => h
 | f + 1, ks, i, h => by
  rw [FM];split
  ·rename_i k hk;exact Ou hR (Oz hR (h k (List.mem_of_getElem? hk)) h)
  ·exact h
theorem PS (hR : Rk S C T) {w : D} : ∀ {f i : Nat} {ks : List Key}, i + f = 2000 → ks.length ≤ 1 + 20 * i → ks ≠ [] → DQ S C ks → O5 (.int 2000) (.int (i : Nat)) w v0 S C T (Bn ks) (.bool ks.isEmpty) (Cv ks) = .row [.int 1, Bn (FM S C T f ks i), .bool (FM S C T f ks i).isEmpty, .bool (decide (2000 < ((FM S C T f ks i).length : Int)))]
 | 0, i, ks => fun h hl hn ho => by
  rw [ZZ, E6, FM];by_cases c : (i : Int) < (ks.length : Nat)
  ·rw [ifT c, ifF (by omega)]
  ·rw [ifF c]
 | f + 1, i, ks => fun h hl hn ho => by
  rw [ZZ, E6];by_cases c : (i : Int) < (ks.length : Nat)
  ·have c' : i < ks.length := by omega
   have hg : ks[i]? = some ks[i] := List.getElem?_eq_getElem c';have hk := ho _ (List.getElem_mem c');have e := Dx (S := S) (C := C) (T := T) (k := ks[i]);have r := LO (S := S) (C := C) (T := T) (k := ks[i]) (l := enl S C T ks[i]) (ks := ks);have r2 := Kk (S := S) (C := C) (T := T) (k := ks[i]) (l := enl S C T ks[i]) (ks := ks);have ht := hR.t1
   have ne : Pv S C T ks ks[i] ≠ [] := fun q => by
    have : (Pv S C T ks ks[i]).length = 0 := by rw [q]; rfl
    unfold Pv at this;have : ks.length = 0 := by omega
    exact hn (List.length_eq_zero_iff.1 this)
   have ih := PS hR (w := w) (f := f) (i := i + 1) (ks := Pv S C T ks ks[i]) (by omega) (by unfold Pv; omega) ne (Oz hR hk ho)
   rw [ifT c, ifT (by omega), ifF (by omega), Bq hg, Bq hg, Bq hg, Bq hg, Bq hg]
   show cond (decide ((sl (G5 (.int ks[i].1) (.int ks[i].2.1) (.int ks[i].2.2.1) (.int ks[i].2.2.2.1) (.int ks[i].2.2.2.2) (Bn ks) (.bool ks.isEmpty) (Cv ks) v0 S C T) 0).toInt = 1)) (O5 (.int 2000) (.int (IntKind.wrap .i64 (i + 1))) w v0 S C T (sl (G5 (.int ks[i].1) (.int ks[i].2.1) (.int ks[i].2.2.1) (.int ks[i].2.2.2.1) (.int ks[i].2.2.2.2) (Bn ks) (.bool ks.isEmpty) (Cv ks) v0 S C T) 1) (sl (G5 (.int ks[i].1) (.int ks[i].2.1) (.int ks[i].2.2.1) (.int ks[i].2.2.2.1) (.int ks[i].2.2.2.2) (Bn ks) (.bool ks.isEmpty) (Cv ks) v0 S C T) 2) (sl (G5 (.int ks[i].1) (.int ks[i].2.1) (.int ks[i].2.2.1) (.int ks[i].2.2.2.1) (.int ks[i].2.2.2.2) (Bn ks) (.bool ks.isEmpty) (Cv ks) v0 S C T) 3)) (.row []) = _;rw [cN hR hk (by omega)]
   dsimp +instances only [Am, Al, Ac, Af];rw [ifT (by rfl), AG (by omega)]
   rw [FM, hg];exact ih
  ·rw [ifF c, FM, List.getElem?_eq_none (by omega)]
def Oi : Key := (0, 0, 0, 0, 0)
theorem J9 (hR : Rk S C T) : KOk S C Oi := by
 have h := hR.s0
 have z : ∀ j, kc Oi j = 0 := fun j => by
  match j with
  | 0 => rfl
  | 1 => rfl
  | 2 => rfl
  | 3 => rfl
  | j + 4 => rfl
 refine ⟨Int.le_refl _, by show (0 : Int) < _; omega, fun j hj => ?_, fun j _ => z j⟩
 rw [z];have := hR.lim j hj;omega
def DW (S C T : D) : List Key := FM S C T 2000 [Oi] 0
theorem cr (hR : Rk S C T) : Vo (ad Aw (.row [.int 0, .int 0, .int 0, .int 0, .int 0])) (.bool false) (.int 2000) v0 S C T = .row [.int 1, Bn (DW S C T), .bool (DW S C T).isEmpty, .bool (decide (2000 < ((DW S C T).length : Int)))] := by
 have A := Wb (ks := []) (k := Oi) (by show (0 : Nat) < _; omega)
 have A : D8 AB (.bool true) Aw (.int 0) (.int 0) (.int 0) (.int 0) (.int 0) = .row [.int 1, Bn [Oi], .bool false, Cv [Oi]] := A;have l1 : len (ad Aw (.row [.int 0, .int 0, .int 0, .int 0, .int 0])) = 1 := rfl;rw [gl, aA, l1, ifT (by omega), ifF (by omega)]
 show cond (decide ((sl (D8 AB (.bool true) Aw (.int 0) (.int 0) (.int 0) (.int 0) (.int 0)) 0).toInt = 1)) (Sk (.int 2000) (ad Aw (.row [.int 0, .int 0, .int 0, .int 0, .int 0])) (.bool false) (.int (IntKind.wrap .i64 (0 + 1))) v0 S C T (sl (D8 AB (.bool true) Aw (.int 0) (.int 0) (.int 0) (.int 0) (.int 0)) 1) (sl (D8 AB (.bool true) Aw (.int 0) (.int 0) (.int 0) (.int 0) (.int 0)) 2) (sl (D8 AB (.bool true) Aw (.int 0) (.int 0) (.int 0) (.int 0) (.int 0)) 3)) (.row []) = _;rw [A];dsimp +instances only [Am, Al, Ac, Af];rw [ifT (by rfl), BI (by omega) (by omega), aA, l1, ifF (by omega)]
 exact PS hR (f := 2000) (i := 0) (ks := [Oi]) (by omega) (by show 1 ≤ _; omega) (by simp) (fun k hk => by rw [List.mem_singleton.1 hk]; exact J9 hR)
end
end Cs
namespace Cs
open Go Go.AE
structure RL (S C : D) (ks : List Key) (d : D) : Prop where
 l : len d = ks.length
 c : ∀ (i : Nat) (k : Key), ks[i]? = some k → Cf S C k (cl d i 0) (cl d i 1)
theorem RL.ad {S C : D} {ks : List Key} {d t x : D} {k : Key} (h : RL S C ks d) (hx : Cf S C k t x) : RL S C (ks ++ [k]) (ad d (.row [t, x])) := by
 refine ⟨by rw [Bp, h.l]; simp, fun i k' hi => ?_⟩
 rw [MK (by omega), MK (by omega), h.l]
 by_cases c : i < ks.length
 ·rw [List.getElem?_append_left c] at hi;rw [if_neg (by omega), if_neg (by omega)]
  exact h.c i k' hi
 ·have hlt : i < (ks ++ [k]).length := by
   rcases Nat.lt_or_ge i (ks ++ [k]).length with q | q
   ·exact q
   ·rw [List.getElem?_eq_none q] at hi;cases hi
  simp at hlt;have : i = ks.length := by omega
  subst this;simp at hi;subst hi;rw [if_pos rfl, if_pos rfl];exact hx
theorem Cf.key {S C T : D} (hR : Rk S C T) {k k' : Key} {t x t' x' : D} (hk : KOk S C k) (hk' : KOk S C k') (h : Cf S C k t x) (h' : Cf S C k' t' x') : (D.strEq t t' = true ∧ ∀ j : Nat, j < len C → (cl x j 0).toInt = (cl x' j 0).toInt) ↔ k = k' := by
 have hc := hR.c1;constructor
 ·rintro ⟨e, v⟩
  have s0 := hk.s0;have s1 := hk.s1;have s0' := hk'.s0;have s1' := hk'.s1;refine Za ?_ fun j hj => ?_
  ·have a := Fp h.t e;have b : D.strEq (cl S k'.1 0) t' = true := h'.t;rw [AJ] at b;have c := Fp a b;have i1 := hR.sid k.1.toNat (by omega)
   have i2 := hR.sid k'.1.toNat (by omega)
   rw [show ((k.1.toNat : Nat) : Int) = k.1 by omega] at i1
   rw [show ((k'.1.toNat : Nat) : Int) = k'.1 by omega] at i2
   have : fd S (cl S k.1 0) = fd S (cl S k'.1 0) := by
    unfold fd;refine CW fun j _ _ => ?_
    show D.strEq (cl S j 0) (cl S k.1 0) = D.strEq (cl S j 0) (cl S k'.1 0);rw [AJ, Cq c, AJ]
   omega
  ·by_cases c : j < len C
   ·have := v j c;rw [h.v j c, h'.v j c] at this;exact this
   ·rw [hk.v1 j (by omega), hk'.v1 j (by omega)]
 ·rintro rfl
  refine ⟨?_, fun j hj => by rw [h.v j hj, h'.v j hj]⟩
  have a := h.t;rw [AJ] at a;exact Fp a h'.t
section
variable [Ar]
variable {S C T v0 : D}
theorem ba (hR : Rk S C T) {k k' : Key} {t x t' x' : D} {b : Bool} (hk : KOk S C k) (hk' : KOk S C k') (h : Cf S C k t x) (h' : Cf S C k' t' x') : Se t x t' x' (.bool b) = .row [.int 1, .bool (decide (k = k'))] := by
 have hc := hR.c1;have key := Cf.key hR hk hk' h h';rw [j9];cases e : D.strEq t t'
 ·rw [cond_false, decide_eq_false (fun q => by rw [← key, e] at q; cases q.1)]
 rw [cond_true, h.l, h'.l, ifT (by rfl)]
 have L := DH (F := fun i => JC (.int (i : Nat)) x' t x t' (.bool b)) (n := len C) (bad := fun i => !decide ((cl x i 0).toInt = (cl x' i 0).toInt)) (B := fun _ => .row [.int 1, .bool false]) (fun i hi => by
  show JC (.int (i : Nat)) x' t x t' (.bool b) = cond _ (.row [.int 1, .bool false]) (JC (.int (i + 1 : Nat)) x' t x t' (.bool b));rw [ZV, h.l, h'.l, ifT (by omega), ifF (by omega), ifT (by omega), AG (by omega)]
  by_cases q : (cl x i 0).toInt = (cl x' i 0).toInt
  ·rw [ifT q, decide_eq_true q];rfl
  ·rw [ifF q, decide_eq_false q];rfl)
 refine (show JC (.int 0) x' t x t' (.bool b) = _ from L).trans ?_
 show cond _ (JC (.int (len C : Nat)) x' t x t' (.bool b)) _ = _;by_cases q : fdG (fun i => !decide ((cl x i 0).toInt = (cl x' i 0).toInt)) (len C) 0 < 0
 ·rw [ifT q, ZV, h.l, ifF (by omega), decide_eq_true (key.1 ⟨e, fun j hj => by
   have n := Cx (p := fun i => !decide ((cl x i 0).toInt = (cl x' i 0).toInt)) (k := len C) (i := 0) (j := j) (by omega) (.inr ⟨q, by omega⟩)
   simpa using n⟩)]
 ·rw [ifF q, decide_eq_false fun c => by
   have w := (key.2 c).2;have is := Hk (p := fun i => !decide ((cl x i 0).toInt = (cl x' i 0).toInt)) (k := len C) (i := 0) (by omega)
   have lt := D6 (p := fun i => !decide ((cl x i 0).toInt = (cl x' i 0).toInt)) (k := len C) (i := 0)
   have w := w (fdG (fun i => !decide ((cl x i 0).toInt = (cl x' i 0).toInt)) (len C) 0).toNat (by omega)
   rw [decide_eq_true w] at is;cases is]
theorem dR (hR : Rk S C T) {ks : List Key} {k : Key} {d t x : D} {b b' : Bool} (hl : ks.length < 100000) (ho : DQ S C ks) (hk : KOk S C k) (h : RL S C ks d) (hx : Cf S C k t x) : S6 d (.bool b) t x (.bool b') = .row [.int 1, .bool (decide (k ∈ ks))] := by
 rw [kj]
 have L := DH (F := fun i => JS d (.bool b) (.int (i : Nat)) x t (.bool b')) (n := ks.length) (bad := fun i => decide (ks[i]? = some k)) (B := fun _ => .row [.int 1, .bool true]) (fun i hi => by
  show JS d (.bool b) (.int (i : Nat)) x t (.bool b') = cond _ (.row [.int 1, .bool true]) (JS d (.bool b) (.int (i + 1 : Nat)) x t (.bool b'));have hg : ks[i]? = some ks[i] := List.getElem?_eq_getElem hi;rw [ZJ, h.l, ifT (by omega), ifF (by omega), ba hR (ho _ (List.getElem_mem hi)) hk (h.c i _ hg) hx]
  dsimp +instances only [Am, Al, Ac, Af];rw [ifT (by rfl), AG (by omega)]
  congr 1
  rw [hg];simp)
 refine (show JS d (.bool b) (.int 0) x t (.bool b') = _ from L).trans ?_
 show cond _ (JS d (.bool b) (.int (ks.length : Nat)) x t (.bool b')) _ = _;by_cases q : fdG (fun i => decide (ks[i]? = some k)) ks.length 0 < 0
 ·rw [ifT q, ZJ, h.l, ifF (by omega), decide_eq_false fun c => by
   obtain ⟨j, hj, e⟩ := List.getElem_of_mem c;have n := Cx (p := fun i => decide (ks[i]? = some k)) (k := ks.length) (i := 0) (j := j) (by omega) (.inr ⟨q, by omega⟩)
   rw [List.getElem?_eq_getElem hj, e] at n;simp at n]
 ·rw [ifF q, decide_eq_true (List.mem_of_getElem? (dT (Hk (p := fun i => decide (ks[i]? = some k)) (k := ks.length) (i := 0) (by omega))))]
theorem fy (hR : Rk S C T) {k : Key} (hk : KOk S C k) {s : Nat} (hs : s < len T) (he : en S C T k s = true) {t x : D} (hx : Cf S C k t x) :
  (fd C (cl T s 5) < 0 → Cf S C (nx S C T k s) (cl T s 1) (ct AB x)) ∧
  (¬ fd C (cl T s 5) < 0 → Cf S C (nx S C T k s) (cl T s 1) (upd (ct AB x) (fd C (cl T s 5)) 0 (.int (IntKind.wrap .i64 ((cl (ct AB x) (fd C (cl T s 5)) 0).toInt + (cl T s 8).toInt))))) := by
 have hc := hR.c1;have ok := LX hR hk hs he;have tt : D.strEq (cl S (nx S C T k s).1 0) (cl T s 1) = true := Ln (hR.to s hs);have ec : ∀ j : Nat, cl (ct AB x) j 0 = cl x j 0 := fun j => rfl
 have el : len (ct AB x) = len x := rfl;have ew : Wd (ct AB x) 1 := f6 Yw hx.w;refine ⟨fun h => ⟨tt, el.trans hx.l, fun j hj => ?_, ew⟩, fun h => ⟨tt, by rw [Sx, el, hx.l], fun j hj => ?_, Wr ew⟩⟩
 ·rw [ec, hx.v j hj, MG (by omega)]
  unfold nv;rw [if_neg (by omega)]
 ·have lt := BL (l := C) (key := cl T s 5);have e : fd C (cl T s 5) = ((fd C (cl T s 5)).toNat : Nat) := by omega
  have v := ok.v0 j hj;rw [MG (by omega)] at v ⊢
  have l := hR.lim j hj;have hxj := hx.v j hj;have hl := hx.l;rw [QX ew (by omega) (by omega) (by omega) (by omega)]
  by_cases c : fd C (cl T s 5) = j
  ·unfold nv at v ⊢;rw [if_pos c] at v ⊢;rw [if_pos ⟨c.symm, rfl⟩, c, ec, hxj, BI (by omega) (by omega)]
   rfl
  ·unfold nv;rw [if_neg c, if_neg (fun q => c q.1.symm), ec, hxj]
end
end Cs
namespace Cs
open Go Go.AE
section
variable [Ar]
variable {S C T v0 : D}
theorem Cf.ni {S C : D} {k : Key} {t x : D} {b : Bool} (h : Cf S C k t x) : Cf S C k t (ni x b) := ⟨h.t, h.l, h.v, ZX h.w⟩
theorem LB (hR : Rk S C T) {k : Key} (hk : KOk S C k) {s : Nat} (hs : s < len T) (he : en S C T k s = true) {t x : D} (hx : Cf S C k t x) :
  ∃ x', C4 v0 S C T t x (.int (s : Nat)) = .row [.int 1, cl T s 1, x', .bool (decide ((len x : Int) = 0))] ∧ Cf S C (nx S C T k s) (cl T s 1) x' := by
 have hc := hR.c1;obtain ⟨D1, D2⟩ := fy hR hk hs he hx;have hxl := hx.l;have lt := BL (l := C) (key := cl T s 5);have el : len (ct AB x) = len C := hxl;rw [pi, ifF (by omega), ifT (by omega), ifT (by omega), I4 (v2 := C) (by omega)]
 dsimp +instances only [Am, Al, Ac, Af];rw [ifT (by rfl)]
 by_cases c : fd C (cl T s 5) < 0
 ·rw [ifT c];exact ⟨_, rfl, D1 c⟩
 ·rw [ifF c, el, ifT (by omega)]
  exact ⟨_, rfl, D2 c⟩
theorem QD (hR : Rk S C T) {k : Key} (hk : KOk S C k) {i : Nat} {L : List Nat} {fl : Bool} (hL : ∀ s ∈ L, s < len T ∧ en S C T k s = true) (hLl : L.length ≤ 20) : ∀ (rem pre : List Nat) (ks : List Key) (d : D) (b : Bool), L = pre ++ rem → DQ S C ks → RL S C ks d → ks.length ≤ 2000 → ks[i]? = some k →
  (2000 < (Cr S C T k ks rem).length ∧ LS d (.bool b) (.int (i : Nat)) (AR L) (.bool fl) (.int (pre.length : Nat)) v0 S C T AB = .row [.int 1, AB, .bool true, .bool false]) ∨
  ((Cr S C T k ks rem).length ≤ 2000 ∧ ∃ d' b', RL S C (Cr S C T k ks rem) d' ∧ LS d (.bool b) (.int (i : Nat)) (AR L) (.bool fl) (.int (pre.length : Nat)) v0 S C T AB = L0 d' (.bool b') (.int (i + 1 : Nat)) v0 S C T AB)
 | [], pre, ks, d, b => fun e ho hr hl hi => by
  right
  have hil : i < ks.length := by
   rcases Nat.lt_or_ge i ks.length with q | q
   ·exact q
   ·rw [List.getElem?_eq_none q] at hi; cases hi
  refine ⟨hl, d, b, hr, ?_⟩;rw [Zv (h0 := rfl), AN, e];simp only [List.append_nil];rw [ifF (by omega), AG (by omega)]
 | s :: rem, pre, ks, d, b => fun e ho hr hl hi => by
  have hc := hR.c1
  have hil : i < ks.length := by
   rcases Nat.lt_or_ge i ks.length with q | q
   ·exact q
   ·rw [List.getElem?_eq_none q] at hi; cases hi
  have hpl : pre.length < L.length := by rw [e]; simp
  have hg : L[pre.length]? = some s := by rw [e]; simp
  have hm := hL s (by rw [e]; simp)
  have hx := hr.c i k hi;have ok := LX hR hk hm.1 hm.2;obtain ⟨x', X1, X2⟩ := LB (v0 := v0) hR hk hm.1 hm.2 hx;have hrl := hr.l;have e' : L = (pre ++ [s]) ++ rem := by rw [e]; simp
  have epl : (pre ++ [s]).length = pre.length + 1 := by simp
  have eo : DQ S C (ks ++ [nx S C T k s]) := fun y hy => by
   rcases List.mem_append.1 hy with q | q
   ·exact ho y q
   ·rw [List.mem_singleton.1 q]; exact ok
  have er : Cr S C T k ks (s :: rem) = Cr S C T k (EM ks (nx S C T k s)) rem := rfl;rw [er];have big : 2000 < (EM ks (nx S C T k s)).length → 2000 < (Cr S C T k (EM ks (nx S C T k s)) rem).length := fun h => Nat.lt_of_lt_of_le h Kk
  rw [Zv (h0 := rfl), AN, ifT (by omega), ifF (by omega), hrl, ifT (by omega), ifF (by omega), Da hg, X1]
  dsimp +instances only [Am, Al, Ac, Af];rw [ifT (by rfl), dR hR (by omega) ho ok hr X2]
  dsimp +instances only [Am, Al, Ac, Af];rw [ifT (by rfl)]
  by_cases m : nx S C T k s ∈ ks
  ·have ea : EM ks (nx S C T k s) = ks := if_pos m;rw [cT (decide_eq_true m), ifF (by omega), AG (by omega), ea]
   have ih := QD hR hk (i := i) (fl := fl) hL hLl rem (pre ++ [s]) ks d b e' ho hr hl hi;rw [epl] at ih;exact ih
  ·have ea : EM ks (nx S C T k s) = ks ++ [nx S C T k s] := if_neg m;rw [ea] at big ⊢;rw [cF (decide_eq_false m), ifT (by omega), Bp, hrl]
   by_cases g : 2000 < ks.length + 1
   ·rw [ifT (by omega)]
    exact .inl ⟨big (by simp; omega), rfl⟩
   ·rw [ifF (by omega), AG (by omega)]
    have ih := QD hR hk (i := i) (fl := fl) hL hLl rem (pre ++ [s]) (ks ++ [nx S C T k s]) (ad d (.row [cl T s 1, Go.AE.ni x' (decide ((len (cl d i 1) : Int) = 0))])) false e' eo (hr.ad X2.ni) (by simp; omega) (by rw [List.getElem?_append_left hil]; exact hi)
    rw [epl] at ih;exact ih
theorem PJ (hR : Rk S C T) : ∀ {f i : Nat} {ks : List Key} {d : D} {b : Bool}, i + f = 2000 → ks.length ≤ 2000 → DQ S C ks → RL S C ks d →
  (2000 < (FM S C T f ks i).length ∧ L0 d (.bool b) (.int (i : Nat)) v0 S C T AB = .row [.int 1, AB, .bool true, .bool false]) ∨
  ((FM S C T f ks i).length ≤ 2000 ∧ ∃ d' b', RL S C (FM S C T f ks i) d' ∧ L0 d (.bool b) (.int (i : Nat)) v0 S C T AB = .row [.int 1, d', .bool b', .bool true])
 | 0, i, ks, d, b => fun h hl ho hr => by
  right;refine ⟨hl, d, b, hr, ?_⟩;rw [ab, hr.l, ifF (by omega)]
 | f + 1, i, ks, d, b => fun h hl ho hr => by
  rw [ab, hr.l];by_cases c : i < ks.length
  ·have hg : ks[i]? = some ks[i] := List.getElem?_eq_getElem c;have hk := ho _ (List.getElem_mem c);have hx := hr.c i _ hg;rw [ifT (by omega), ifF (by omega), Lh hR hk hx]
   dsimp +instances only [Am, Al, Ac, Af];rw [ifT (by rfl), FM, hg]
   have ht := hR.t1;have e := Dx (S := S) (C := C) (T := T) (k := ks[i]);rcases QD (v0 := v0) hR hk (i := i) (L := enl S C T ks[i]) (fl := (enl S C T ks[i]).isEmpty) (fun s hs => IE hs) (by omega) (enl S C T ks[i]) [] ks d b rfl ho hr hl hg with ⟨g1, g2⟩ | ⟨g1, d', b', g2, g3⟩
   ·left;refine ⟨Nat.lt_of_lt_of_le g1 (Sy (f := f)), g2⟩
   ·have ih := PJ hR (f := f) (i := i + 1) (ks := Pv S C T ks ks[i]) (d := d') (b := b') (by omega) g1 (Oz hR hk ho) g2
    have g3 : LS d (.bool b) (.int (i : Nat)) (AR (enl S C T ks[i])) (.bool (enl S C T ks[i]).isEmpty) (.int 0) v0 S C T AB = L0 d' (.bool b') (.int (i + 1 : Nat)) v0 S C T AB := g3;rw [g3];exact ih
  ·right
   have e : FM S C T (f + 1) ks i = ks := by
    rw [FM, List.getElem?_eq_none (by omega)]
   rw [e];refine ⟨hl, d, b, hr, ?_⟩;rw [ifF (by omega)]
theorem aU (hR : Rk S C T) : (2000 < (DW S C T).length ∧ KW v0 S C T = .row [.int 1, AB, .bool true, .bool false]) ∨ ((DW S C T).length ≤ 2000 ∧ ∃ d' b', RL S C (DW S C T) d' ∧ KW v0 S C T = .row [.int 1, d', .bool b', .bool true]) := by
 have hs0 := hR.s0;have hc := hR.c1;rw [ix, ifT (by omega), ifT (by omega)]
 have k0 := J9 hR
 have hx : Cf S C Oi (cl S 0 0) (Go.AE.ni (rp (len C : Nat) (.row [.int 0])) false) := by
  refine ⟨BO, by rw [cC, cZ]; omega, fun j hj => ?_, ZX (dX rfl)⟩
  rw [fe, fV (by omega) (by omega)]
  match j with
  | 0 => rfl
  | 1 => rfl
  | 2 => rfl
  | 3 => rfl
  | j + 4 => rfl
 have R0 : RL S C [] Aw := ⟨rfl, fun i k h => by simp at h⟩
 exact PJ hR (f := 2000) (i := 0) (ks := [Oi]) (d := ad Aw (.row [cl S 0 0, Go.AE.ni (rp (len C : Nat) (.row [.int 0])) false])) (b := false) (by omega) (by show 1 ≤ _; omega) (fun k hk => by rw [List.mem_singleton.1 hk]; exact k0) (R0.ad hx)
theorem WJ (hR : Rk S C T) {k : Key} (hk : KOk S C k) : ∃ x, JP (.int k.1) (.int k.2.1) (.int k.2.2.1) (.int k.2.2.2.1) (.int k.2.2.2.2) v0 S C T = .row [.int 1, cl S k.1 0, x] ∧ Cf S C k (cl S k.1 0) x := by
 have hc := hR.c1;have s0 := hk.s0;have s1 := hk.s1;rw [g6, ifF (by omega), ifT (by omega)]
 by_cases n0 : (len C : Int) = 0
 ·rw [ifT n0];exact ⟨_, rfl, BO, by rw [BA]; omega, fun j hj => by omega, EN⟩
 rw [ifF n0];by_cases n1 : (len C : Int) = 1
 ·rw [ifT n1];refine ⟨_, rfl, BO, by rw [Bp, BA]; omega, fun j hj => ?_, G3 EN rfl⟩
  match j with
  | 0 => rfl
  | j + 1 => omega
 rw [ifF n1];by_cases n2 : (len C : Int) = 2
 ·rw [ifT n2];refine ⟨_, rfl, BO, by rw [Bp, Bp, BA]; omega, fun j hj => ?_, G3 (G3 EN rfl) rfl⟩
  match j with
  | 0 => rfl
  | 1 => rfl
  | j + 2 => omega
 rw [ifF n2];by_cases n3 : (len C : Int) = 3
 ·rw [ifT n3];refine ⟨_, rfl, BO, by rw [Bp, Bp, Bp, BA]; omega, fun j hj => ?_, G3 (G3 (G3 EN rfl) rfl) rfl⟩
  match j with
  | 0 => rfl
  | 1 => rfl
  | 2 => rfl
  | j + 3 => omega
 rw [ifF n3];have n4 : (len C : Int) = 4 := by omega
 rw [ifT n4];refine ⟨_, rfl, BO, by rw [Bp, Bp, Bp, Bp, BA]; omega, fun j hj => ?_, G3 (G3 (G3 (G3 EN rfl) rfl) rfl) rfl⟩
 match j with
 | 0 => rfl
 | 1 => rfl
 | 2 => rfl
 | 3 => rfl
 | j + 4 => omega
end
end Cs
namespace Cs
open Go Go.AE
structure NL (ns : List Nat) (d : D) : Prop where
 l : len d = ns.length
 c : ∀ (m s : Nat), ns[m]? = some s → cl d m 0 = .int (s : Nat)
theorem IB {l : List Nat} : NL l (AR l) := ⟨AN, fun m s h => Da h⟩
theorem XJ {l : List Nat} : Wd (AR l) 1 := by
 intro r hr;unfold AR at hr;simp only [D.rows, List.mem_map] at hr;obtain ⟨s, _, e⟩ := hr;subst e;exact ⟨_, rfl, rfl⟩
def kp (T : D) (r : Bool) (s : Nat) : Bool := decide ((cl T s 2).toInt = 2) == r
def prt (T : D) (L : List Nat) (r : Bool) : List Nat := L.filter (kp T r)
theorem NZ {T : D} {L : List Nat} {r : Bool} : (prt T L r).length ≤ L.length := List.length_filter_le _ _
theorem CF {L pre rem : List Nat} {s : Nat} (e : L = pre ++ s :: rem) : L[pre.length]? = some s := by rw [e]; simp
section
variable [Ar]
variable {v0 S C T : D}
theorem Lx {L : List Nat} {b r : Bool} (hL : ∀ s ∈ L, s < len T) (hn : L.length < 1000) : ∀ (rem pre : List Nat) (d : D) (i : Nat), L = pre ++ rem → i = (prt T pre r).length → len d = L.length → Wd d 1 →
  (∀ m s : Nat, (prt T pre r)[m]? = some s → cl d m 0 = .int (s : Nat)) → (∀ m s : Nat, pre.length ≤ m → L[m]? = some s → cl d m 0 = .int (s : Nat)) →
  ∃ d', NL (prt T L r) d' ∧ HL d (.bool b) (.int (i : Nat)) (.int (pre.length : Nat)) v0 S C T (.bool r) = .row [.int 1, d', .bool b]
 | [], pre, d, i => fun e hi hl hw h1 h2 => by
  simp only [List.append_nil] at e;subst e;have pl := NZ (T := T) (L := L) (r := r);have l1 : len (sb d 0 (i : Nat)) = i := by rw [Q8 (by omega) (by omega)]; omega
  refine ⟨sb (sb d 0 (i : Nat)) 0 (i : Nat), ⟨by rw [Q8 (by omega) (by omega)]; omega, fun m s hm => ?_⟩, ?_⟩
  ·have hm' : m < (prt T L r).length := by
    rcases Nat.lt_or_ge m (prt T L r).length with q | q
    ·exact q
    ·rw [List.getElem?_eq_none q] at hm; cases hm
   rw [W4 (by omega) (by omega), W4 (by omega) (by omega)]
   exact h1 m s hm
  ·rw [aD, hl, ifF (by omega), ifF (by omega), ifF (by omega), ifF (by omega), l1]
   cases decide (((L.length : Nat) : Int) = ((i : Nat) : Int)) <;> exact ifF (by omega)
 | s :: rem, pre, d, i => fun e hi hl hw h1 h2 => by
  have hg := CF e;have hp : pre.length < L.length := by rw [e]; simp
  have hm := hL s (by rw [e]; simp)
  have hc := h2 pre.length s (Nat.le_refl _) hg;have e' : L = (pre ++ [s]) ++ rem := by rw [e]; simp
  have epl : (pre ++ [s]).length = pre.length + 1 := by simp
  have pl := NZ (T := T) (L := pre) (r := r)
  have skip : kp T r s = false → ∃ d', NL (prt T L r) d' ∧ HL d (.bool b) (.int (i : Nat)) (.int ((pre.length + 1 : Nat))) v0 S C T (.bool r) = .row [.int 1, d', .bool b] := fun q => by
   have ep : prt T (pre ++ [s]) r = prt T pre r := by unfold prt; rw [List.filter_append, List.filter_cons_of_neg (by simp [q])]; simp
   have ih := Lx (b := b) hL hn rem (pre ++ [s]) d i e' (by rw [ep]; exact hi) hl hw (by rw [ep]; exact h1) (fun m s' hm' hs' => h2 m s' (by omega) hs')
   rw [epl] at ih;exact ih
  have keep : kp T r s = true → ∃ d', NL (prt T L r) d' ∧ HL (upd d (i : Nat) 0 (.int (s : Nat))) (.bool b) (.int ((i + 1 : Nat))) (.int ((pre.length + 1 : Nat))) v0 S C T (.bool r) = .row [.int 1, d', .bool b] := fun q => by
   have ep : prt T (pre ++ [s]) r = prt T pre r ++ [s] := by unfold prt; rw [List.filter_append, List.filter_cons_of_pos (by simp [q])]; simp
   have ih := Lx (b := b) hL hn rem (pre ++ [s]) (upd d (i : Nat) 0 (.int (s : Nat))) (i + 1) e' (by rw [ep]; simp; exact hi) (by rw [Sx]; exact hl) (Wr hw) (fun m s' hs' => by
    rw [ep] at hs';rw [QX hw (by omega) (by omega) (by omega) (by omega)]
    by_cases c : m < (prt T pre r).length
    ·rw [List.getElem?_append_left c] at hs';rw [if_neg (by omega)]
     exact h1 m s' hs'
    ·have hlt : m < (prt T pre r ++ [s]).length := by
      rcases Nat.lt_or_ge m (prt T pre r ++ [s]).length with q | q
      ·exact q
      ·rw [List.getElem?_eq_none q] at hs'; cases hs'
     simp at hlt;have hmi : m = (prt T pre r).length := by omega
     rw [if_pos ⟨by omega, rfl⟩]
     rw [hmi] at hs';simp at hs';rw [hs']) (fun m s' hm' hs' => by
    rw [QX hw (by omega) (by omega) (by omega) (by omega), if_neg (by omega)]
    exact h2 m s' (by omega) hs')
   rw [epl] at ih;exact ih
  rw [aD, hl, ifT (by omega), ifF (by omega), hc, Ac, ifF (by omega), ifT (by omega), ifF (show ¬ ((i : Nat) : Int) < 0 by omega), ifT (show ((i : Nat) : Int) < (L.length : Nat) by omega), AG (by omega), AG (by omega)]
  by_cases q : (cl T s 2).toInt = 2
  ·rw [ifT q];have k1 : kp T r s = r := by unfold kp; rw [decide_eq_true q]; cases r <;> rfl
   cases r
   ·rw [cond_false]; exact skip k1
   ·rw [cond_true]; exact keep k1
  ·rw [ifF q];have k1 : kp T r s = !r := by unfold kp; rw [decide_eq_false q]; cases r <;> rfl
   cases r
   ·rw [cond_false]; exact keep k1
   ·rw [cond_true]; exact skip k1
theorem dq {L : List Nat} {b r : Bool} (hL : ∀ s ∈ L, s < len T) (hn : L.length < 1000) : MJ (AR L) (.bool b) v0 S C T (.bool r) = .row [.int 1, .int (fdG (fun j => match L[j]? with | some s => !kp T r s | none => false) L.length 0)] := by
 rw [eU];refine find (F := fun j => KR (AR L) (.bool b) (.int (j : Nat)) v0 S C T (.bool r)) (n := L.length) (fun j hj => ?_) ?_
 ·show KR (AR L) (.bool b) (.int (j : Nat)) v0 S C T (.bool r) = _;have hg : L[j]? = some L[j] := List.getElem?_eq_getElem hj;have hm := hL _ (List.getElem_mem hj);rw [Zq, AN, ifT (by omega), ifF (by omega), Da hg, Ac, ifF (by omega), ifT (by omega), AG (by omega), hg]
  show _ = cond (!kp T r L[j]) _ _;unfold kp;by_cases q : (cl T (L[j] : Nat) 2).toInt = 2
  ·rw [ifT q, decide_eq_true q];cases r <;> rfl
  ·rw [ifF q, decide_eq_false q];cases r <;> rfl
 ·show KR (AR L) (.bool b) (.int (L.length : Nat)) v0 S C T (.bool r) = _;rw [Zq, AN, ifF (by omega)]
theorem Wo {L : List Nat} {b r : Bool} (hL : ∀ s ∈ L, s < len T) (hn : L.length < 1000) : ∃ d', NL (prt T L r) d' ∧ JT (AR L) (.bool b) v0 S C T (.bool r) = .row [.int 1, d', .bool b] := by
 have ge := LF (p := fun j => match L[j]? with | some s => !kp T r s | none => false) (k := L.length) (i := 0)
 have lt := D6 (p := fun j => match L[j]? with | some s => !kp T r s | none => false) (k := L.length) (i := 0)
 have no := fun j => Cx (p := fun j => match L[j]? with | some s => !kp T r s | none => false) (k := L.length) (i := 0) (j := j)
 have is := Hk (p := fun j => match L[j]? with | some s => !kp T r s | none => false) (k := L.length) (i := 0)
 rw [ib, dq hL hn];dsimp +instances only [Am, Al, Ac, Af];rw [ifT (by rfl)]
 generalize fdG (fun j => match L[j]? with | some s => !kp T r s | none => false) L.length 0 = n at ge lt no is
 by_cases c : n = -1
 ·rw [ifT c]
  have e : prt T L r = L := List.filter_eq_self.2 fun s hs => by
   obtain ⟨j, hj, e⟩ := List.getElem_of_mem hs;have h := no j (by omega) (.inr ⟨by omega, by omega⟩)
   rw [List.getElem?_eq_getElem hj] at h;simp only [e] at h;simpa using h
  rw [e];exact ⟨_, IB, rfl⟩
 ·rw [ifF c];have hnl : n.toNat < L.length := by omega
  have hg : L[n.toNat]? = some L[n.toNat] := List.getElem?_eq_getElem hnl;have hbad := is (by omega)
  rw [hg] at hbad;have hbad : (!kp T r L[n.toNat]) = true := hbad
  have hall : prt T (L.take n.toNat) r = L.take n.toNat := List.filter_eq_self.2 fun s hs => by
   obtain ⟨j, hj, e⟩ := List.getElem_of_mem hs;have hj' : j < n.toNat ∧ j < L.length := by simp at hj; omega
   have h := no j (by omega) (.inl (by omega))
   rw [List.getElem?_eq_getElem hj'.2] at h;rw [List.getElem_take] at e;simp only [e] at h;simpa using h
  have htk : L.take (n.toNat + 1) = L.take n.toNat ++ [L[n.toNat]] := by rw [List.take_add_one, hg]; rfl
  have e1 : prt T (L.take (n.toNat + 1)) r = L.take n.toNat := by
   rw [htk];unfold prt at hall ⊢;rw [List.filter_append, hall, List.filter_cons_of_neg (by simpa using hbad)]
   simp
  have tl : (L.take (n.toNat + 1)).length = n.toNat + 1 := by simp; omega
  have X := Lx (v0 := v0) (S := S) (C := C) (T := T) (b := b) (r := r) hL hn (L.drop (n.toNat + 1)) (L.take (n.toNat + 1)) (AR L) n.toNat (List.take_append_drop _ _).symm (by rw [e1]; simp; omega) AN XJ (fun m s h => by
   rw [e1] at h
   have hm : m < n.toNat := by
    rcases Nat.lt_or_ge m n.toNat with q | q
    ·exact q
    ·rw [List.getElem?_eq_none (by simp; omega)] at h; cases h
   rw [List.getElem?_take_of_lt hm] at h;exact Da h) (fun m s _ h => Da h)
  rw [tl] at X;rw [show n = ((n.toNat : Nat) : Int) by omega, AG (by omega)]
  exact X
theorem K9 {L : List Nat} {fl r : Bool} (hL : ∀ s ∈ L, s < len T) (hn : L.length < 1000) : ∀ (rem pre acc : List Nat), L = pre ++ rem → acc.length ≤ pre.length → If (AR L) (.bool fl) (.bool r) (AR acc) (.bool acc.isEmpty) (.int (pre.length : Nat)) v0 S C T = .row [.int 1, AR (acc ++ prt T rem r), .bool (acc ++ prt T rem r).isEmpty]
 | [], pre, acc => fun e ha => by
  have : L.length = pre.length := by rw [e]; simp
  rw [ak, AN, ifF (by omega)]
  show _ = D.row [.int 1, AR (acc ++ []), .bool (acc ++ []).isEmpty];rw [List.append_nil]
 | s :: rem, pre, acc => fun e ha => by
  have hg := CF e;have hp : pre.length < L.length := by rw [e]; simp
  have hm := hL s (by rw [e]; simp)
  have e' : L = (pre ++ [s]) ++ rem := by rw [e]; simp
  have epl : (pre ++ [s]).length = pre.length + 1 := by simp
  have skip : kp T r s = false → If (AR L) (.bool fl) (.bool r) (AR acc) (.bool acc.isEmpty) (.int ((pre.length + 1 : Nat))) v0 S C T = .row [.int 1, AR (acc ++ prt T (s :: rem) r), .bool (acc ++ prt T (s :: rem) r).isEmpty] := fun q => by
   have ih := K9 (fl := fl) (r := r) hL hn rem (pre ++ [s]) acc e' (by omega)
   rw [epl] at ih;rw [show prt T (s :: rem) r = prt T rem r from List.filter_cons_of_neg (by simp [q])]
   exact ih
  have keep : kp T r s = true → If (AR L) (.bool fl) (.bool r) (ad (AR acc) (.row [.int (s : Nat)])) (.bool false) (.int ((pre.length + 1 : Nat))) v0 S C T = .row [.int 1, AR (acc ++ prt T (s :: rem) r), .bool (acc ++ prt T (s :: rem) r).isEmpty] := fun q => by
   have ih := K9 (fl := fl) (r := r) hL hn rem (pre ++ [s]) (acc ++ [s]) e' (by simp; omega)
   rw [epl, show (acc ++ [s]).isEmpty = false by simp, List.append_assoc] at ih
   rw [OD, show prt T (s :: rem) r = s :: prt T rem r from List.filter_cons_of_pos (by simp [q])]
   exact ih
  rw [ak, AN, ifT (by omega), ifF (by omega), Da hg, Ac, ifF (by omega), ifT (by omega), AN, AG (by omega)]
  by_cases q : (cl T s 2).toInt = 2
  ·rw [ifT q];have k1 : kp T r s = r := by unfold kp; rw [decide_eq_true q]; cases r <;> rfl
   cases r
   ·rw [cond_false]; exact skip k1
   ·rw [cond_true, ifT (by omega)]; exact keep k1
  ·rw [ifF q];have k1 : kp T r s = !r := by unfold kp; rw [decide_eq_false q]; cases r <;> rfl
   cases r
   ·rw [cond_false, ifT (by omega)]; exact keep k1
   ·rw [cond_true]; exact skip k1
theorem F6 {L : List Nat} {b r : Bool} (hL : ∀ s ∈ L, s < len T) (hn : L.length < 1000) : Dk v0 S C T (AR L) (.bool b) (.bool r) = .row [.int 1, AR (prt T L r), .bool (prt T L r).isEmpty] :=
 (eI ..).trans (K9 (fl := b) hL hn L [] [] rfl (Nat.le_refl _))
end
def alk (T : D) (s : Nat) (T' : D) (m : Nat) : Bool := decide ((cl T s 2).toInt = (cl T' m 2).toInt) && (D.strEq (cl T s 3) (cl T' m 3) && D.strEq (cl T s 4) (cl T' m 4))
theorem V8 {T T' : D} {s m : Nat} : alk T s T' m = alk T' m T s := by
 unfold alk;rw [O2, AJ, AJ (a := cl T s 4)]
def lk (T T' : D) (L M : List Nat) : Option Nat := L.find? fun s => !M.any (alk T s T')
def Mq (p : Nat → Bool) (M : List Nat) (j : Nat) : Bool := match M[j]? with | some m => p m | none => false
theorem SJ {p : Nat → Bool} {M : List Nat} : decide (fdG (Mq p M) M.length 0 < 0) = !M.any p := by
 cases h : M.any p
 ·rw [decide_eq_true]
  ·rfl
  rw [Cu]
  ·omega
  intro j _ hj;have hj : j < M.length := by omega
  unfold Mq;rw [List.getElem?_eq_getElem hj];exact (List.any_eq_false.1 h _ (List.getElem_mem hj)) |> (by simpa using ·)
 ·rw [decide_eq_false]
  ·rfl
  intro c;obtain ⟨x, hx, hp⟩ := List.any_eq_true.1 h;obtain ⟨j, hj, e⟩ := List.getElem_of_mem hx;have n := Cx (p := Mq p M) (k := M.length) (i := 0) (j := j) (by omega) (.inr ⟨c, by omega⟩)
  unfold Mq at n;rw [List.getElem?_eq_getElem hj, e] at n;have n : p x = false := n;rw [hp] at n;cases n
section
variable [Ar]
variable {v0 S C T v0' S' C' T' : D}
theorem aO {M : List Nat} {dm : D} {b : Bool} {s : Nat} (hM : ∀ m ∈ M, m < len T') (hd : NL M dm) (hn : M.length < 1000) (hs : s < len T) : SP dm (.bool b) v0' S' C' T' v0 S C T (.int (s : Nat)) = .row [.int 1, .int (fdG (Mq (alk T s T') M) M.length 0)] := by
 have hl := hd.l;rw [io];refine find (F := fun j => MS dm (.bool b) (.int (j : Nat)) v0' S' C' T' v0 S C T (.int (s : Nat))) (n := M.length) (fun j hj => ?_) ?_
 ·show MS dm (.bool b) (.int (j : Nat)) v0' S' C' T' v0 S C T (.int (s : Nat)) = _;have hg : M[j]? = some M[j] := List.getElem?_eq_getElem hj;have hm := hM _ (List.getElem_mem hj);rw [az, hl, ifT (by omega), ifF (by omega), hd.c j _ hg, Ac, ifF (by omega), ifT (by omega), ifF (by omega), ifT (by omega), AG (by omega)]
  unfold Mq;rw [hg];show cond (alk T' M[j] T s) _ _ = cond (alk T s T' M[j]) _ _;rw [V8]
 ·show MS dm (.bool b) (.int (M.length : Nat)) v0' S' C' T' v0 S C T (.int (s : Nat)) = _;rw [az, hl, ifF (by omega)]
def lkR : Option Nat → D
 | some s => .row [.int 1, .int (s : Nat), .bool true]
 | none => .row [.int 1, .int 0, .bool false]
theorem Pm {L M : List Nat} {dl dm : D} {b b' : Bool} (hL : ∀ s ∈ L, s < len T) (hM : ∀ m ∈ M, m < len T') (hl : NL L dl) (hm : NL M dm) (hn : L.length < 1000) (hn' : M.length < 1000) : ∀ (rem pre : List Nat), L = pre ++ rem → Sb dm (.bool b') dl (.bool b) (.int (pre.length : Nat)) v0 S C T v0' S' C' T' = lkR (lk T T' rem M)
 | [], pre => fun e => by
  have : L.length = pre.length := by rw [e]; simp
  rw [ZH, hl.l, ifF (by omega)]
  rfl
 | s :: rem, pre => fun e => by
  have hg := CF e;have hp : pre.length < L.length := by rw [e]; simp
  have hs := hL s (by rw [e]; simp)
  have e' : L = (pre ++ [s]) ++ rem := by rw [e]; simp
  have epl : (pre ++ [s]).length = pre.length + 1 := by simp
  have ih := Pm (b := b) (b' := b') hL hM hl hm hn hn' rem (pre ++ [s]) e';rw [epl] at ih;rw [ZH, hl.l, ifT (by omega), ifF (by omega), hl.c _ _ hg, aO hM hm hn' hs]
  dsimp +instances only [Am, Al, Ac, Af];rw [ifT (by rfl), SJ, AG (by omega), ih]
  unfold lk;rw [List.find?_cons];cases (!M.any (alk T s T')) <;> rfl
theorem VA {L M : List Nat} {dl dm : D} {b b' : Bool} (hL : ∀ s ∈ L, s < len T) (hM : ∀ m ∈ M, m < len T') (hl : NL L dl) (hm : NL M dm) (hn : L.length < 1000) (hn' : M.length < 1000) : Js v0 S C T dl (.bool b) v0' S' C' T' dm (.bool b') = lkR (lk T T' L M) :=
 (fP ..).trans (Pm hL hM hl hm hn hn' L [] rfl)
theorem dG {L M : List Nat} {dl dm : D} {b b' : Bool} {s i : Nat} (hs : s < len T) (hM : ∀ m ∈ M, m < len T') (hl : NL L dl) (hm : NL M dm) (hn : L.length < 1000) (hn' : M.length < 1000) (hi : L[i]? = some s) :
  Et dl (.bool b) dm (.bool b') (.int (i : Nat)) (.bool false) (.int 0) v0 S C T v0' S' C' T' = cond (M.any (alk T s T')) (OQ dl (.bool b) dm (.bool b') (.int (i + 1 : Nat)) v0 S C T v0' S' C' T') (.row [.int 1, .int (s : Nat)]) := by
 have hil : i < L.length := by
  rcases Nat.lt_or_ge i L.length with q | q
  ·exact q
  ·rw [List.getElem?_eq_none q] at hi; cases hi
 have hll := hl.l;have hml := hm.l
 have A := Tc (G := fun f j => Et dl (.bool b) dm (.bool b') (.int (i : Nat)) (.bool f) (.int (j : Nat)) v0 S C T v0' S' C' T') (p := Mq (alk T s T') M) (n := M.length) (b := false) (fun f j hj => by
  show Et dl (.bool b) dm (.bool b') (.int (i : Nat)) (.bool f) (.int (j : Nat)) v0 S C T v0' S' C' T' = cond f (Et dl (.bool b) dm (.bool b') (.int (i : Nat)) (.bool true) (.int (j + 1 : Nat)) v0 S C T v0' S' C' T') (Et dl (.bool b) dm (.bool b') (.int (i : Nat)) (.bool (Mq (alk T s T') M j)) (.int (j + 1 : Nat)) v0 S C T v0' S' C' T');have hg : M[j]? = some M[j] := List.getElem?_eq_getElem hj;have hmm := hM _ (List.getElem_mem hj);rw [Zr, hml, ifT (by omega), AG (by omega)]
  congr 1
  rw [ifF (by omega), hll, ifT (by omega), hl.c i s hi, Ac, ifF (by omega), ifT (by omega), ifF (by omega), hm.c j _ hg, Ac, ifF (by omega), ifT (by omega)]
  unfold Mq;rw [hg];show _ = Et dl (.bool b) dm (.bool b') (.int (i : Nat)) (.bool (alk T s T' M[j])) (.int (j + 1 : Nat)) v0 S C T v0' S' C' T';unfold alk;cases decide ((cl T s 2).toInt = (cl T' M[j] 2).toInt)
  ·rfl
  cases D.strEq (cl T s 3) (cl T' M[j] 3) <;> rfl)
 refine (show Et dl (.bool b) dm (.bool b') (.int (i : Nat)) (.bool false) (.int 0) v0 S C T v0' S' C' T' = Et dl (.bool b) dm (.bool b') (.int (i : Nat)) (.bool (false || !decide (fdG (Mq (alk T s T') M) M.length 0 < 0))) (.int (M.length : Nat)) v0 S C T v0' S' C' T' from A).trans ?_
 rw [SJ, Bool.not_not, Bool.false_or, Zr, hml, ifF (by omega), AG (by omega), ifF (by omega), hll, ifT (by omega), hl.c i s hi]
def TK : Option Nat → D
 | some s => .row [.int 1, .int (s : Nat)]
 | none => .row [.int 1, .int (-1)]
theorem Ps {L M : List Nat} {dl dm : D} {b b' : Bool} (hL : ∀ s ∈ L, s < len T) (hM : ∀ m ∈ M, m < len T') (hl : NL L dl) (hm : NL M dm) (hn : L.length < 1000) (hn' : M.length < 1000) : ∀ (rem pre : List Nat), L = pre ++ rem → OQ dl (.bool b) dm (.bool b') (.int (pre.length : Nat)) v0 S C T v0' S' C' T' = TK (lk T T' rem M)
 | [], pre => fun e => by
  have : L.length = pre.length := by rw [e]; simp
  rw [au, hl.l, ifF (by omega)]
  rfl
 | s :: rem, pre => fun e => by
  have hg := CF e;have hp : pre.length < L.length := by rw [e]; simp
  have hs := hL s (by rw [e]; simp)
  have e' : L = (pre ++ [s]) ++ rem := by rw [e]; simp
  have epl : (pre ++ [s]).length = pre.length + 1 := by simp
  have ih := Ps (b := b) (b' := b') hL hM hl hm hn hn' rem (pre ++ [s]) e';rw [epl] at ih;rw [au, hl.l, ifT (by omega), dG hs hM hl hm hn hn' hg, ih]
  unfold lk;rw [List.find?_cons];cases M.any (alk T s T') <;> rfl
theorem W0 {L M : List Nat} {dl dm : D} {b b' : Bool} (hL : ∀ s ∈ L, s < len T) (hM : ∀ m ∈ M, m < len T') (hl : NL L dl) (hm : NL M dm) (hn : L.length < 1000) (hn' : M.length < 1000) : Jj v0 S C T dl (.bool b) v0' S' C' T' dm (.bool b') = TK (lk T T' L M) :=
 (gk ..).trans (Ps hL hM hl hm hn hn' L [] rfl)
end
end Cs
namespace Cs
open Go Go.AE
abbrev PK := Key × Key
abbrev K10 : List Kd := [.int .i64, .int .i64, .int .i64, .int .i64, .int .i64, .int .i64, .int .i64, .int .i64, .int .i64, .int .i64]
def Dh (p : PK) : List D := [.int p.1.1, .int p.1.2.1, .int p.1.2.2.1, .int p.1.2.2.2.1, .int p.1.2.2.2.2, .int p.2.1, .int p.2.2.1, .int p.2.2.2.1, .int p.2.2.2.2.1, .int p.2.2.2.2.2]
def AO (ps : List PK) : D := .slc ps.isEmpty (ps.map fun p => .row (Dh p))
def BD (ps : List PK) : D := .slc false (ps.map fun p => .row (Dh p ++ [.bool true]))
theorem CY {ps : List PK} : len (AO ps) = ps.length := by unfold AO len; simp [D.rows]
theorem TB {ps : List PK} : len (BD ps) = ps.length := by unfold BD len; simp [D.rows]
theorem A0 {ps : List PK} {j c : Nat} {p : PK} (h : ps[j]? = some p) : cl (AO ps) j c = (Dh p).getD c default := by
 show (((ps.map fun p => D.row (Dh p))[j]?).getD default).cells.getD c default = _
 rw [List.getElem?_map, h];rfl
theorem U9 {a b : PK} {l : List D} : B6 K10 (Dh a ++ l) (Dh b) = decide (a = b) := by
 obtain ⟨⟨a1, a2, a3, a4, a5⟩, a6, a7, a8, a9, a10⟩ := a;obtain ⟨⟨b1, b2, b3, b4, b5⟩, b6, b7, b8, b9, b10⟩ := b;simp only [K10, Dh, List.cons_append, List.nil_append, B6, Ac, Bool.and_true];rw [Bool.eq_iff_iff];simp;omega
theorem Un {ps : List PK} {p : PK} : mIx K10 (BD ps) (.row (Dh p)) = fdG (fun i => decide (ps[i]? = some p)) ps.length 0 := by
 rw [SZ, TB];refine CW fun j _ hj => ?_
 show B6 K10 ((((ps.map fun p => D.row (Dh p ++ [.bool true]))[j]?).getD default).cells) (Dh p) = _
 have hj' : j < ps.length := by omega
 rw [List.getElem?_map, List.getElem?_eq_getElem hj'];show B6 K10 (Dh ps[j] ++ [.bool true]) (Dh p) = _;rw [U9];simp
def Bb (ps : List PK) (p : PK) : List PK := if p ∈ ps then ps else ps ++ [p]
theorem E8 {ps : List PK} {p : PK} : (Bb ps p).length ≤ ps.length + 1 := by
 unfold Bb;split
 ·omega
 ·simp
theorem CQ : ∀ {l ps : List PK}, (l.foldl Bb ps).length ≤ ps.length + l.length
 | [], ps => by simp
 | s :: l, ps => by
  have := CQ (l := l) (ps := Bb ps s);have := E8 (ps := ps) (p := s);simp only [List.foldl_cons, List.length_cons];omega
section
variable [Ar]
variable {v0 S C T v0' S' C' T' : D} {w8 w9 w11 w12 : D} {b10 b13 : Bool} {i14 i15 : Int}
theorem QU {ps : List PK} {p : PK} (hl : ps.length < 1073741824) : H3 (AO ps) (.bool ps.isEmpty) (BD ps) (.int p.1.1) (.int p.1.2.1) (.int p.1.2.2.1) (.int p.1.2.2.2.1) (.int p.1.2.2.2.2) (.int p.2.1) (.int p.2.2.1) (.int p.2.2.2.1) (.int p.2.2.2.2.1) (.int p.2.2.2.2.2) = .row [.int 1, AO (Bb ps p), .bool (Bb ps p).isEmpty, BD (Bb ps p)] := by
 rw [iK];have e : D.row [(.int p.1.1), (.int p.1.2.1), (.int p.1.2.2.1), (.int p.1.2.2.2.1), (.int p.1.2.2.2.2), (.int p.2.1), (.int p.2.2.1), (.int p.2.2.2.1), (.int p.2.2.2.2.1), (.int p.2.2.2.2.2)] = .row (Dh p) := rfl;rw [e, Un, CY];by_cases c : p ∈ ps
 ·obtain ⟨j, hj, hjk⟩ := List.getElem_of_mem c;have q := Hi (p := fun i => decide (ps[i]? = some p)) (k := ps.length) (i := 0) (j := j) (by omega) (by omega) (decide_eq_true (by rw [List.getElem?_eq_getElem hj, hjk]))
  have lt := D6 (p := fun i => decide (ps[i]? = some p)) (k := ps.length) (i := 0)
  have ea : Bb ps p = ps := if_pos c;rw [ifF (by omega), ea]
  have cb : ∀ i : Int, 0 ≤ i → i < ps.length → cl (BD ps) i 10 = .bool true := fun i h0 h1 => by
   show (((ps.map fun p => D.row (Dh p ++ [.bool true]))[i.toNat]?).getD default).cells.getD 10 default = _
   rw [List.getElem?_map, List.getElem?_eq_getElem (by omega)]
   rfl
  rw [cb _ q.1 (by omega)]
  rfl
 ·have q : fdG (fun i => decide (ps[i]? = some p)) ps.length 0 = -1 := Cu fun j _ hj => decide_eq_false fun h => c (List.mem_of_getElem? h)
  have ea : Bb ps p = ps ++ [p] := if_neg c;rw [ifT (by omega), ifT (by omega), ea]
  have e1 : ad (AO ps) (.row (Dh p)) = AO (ps ++ [p]) := by
   unfold AO ad;simp [D.rows]
  have e2 : ad (BD ps) (.row [(.int p.1.1), (.int p.1.2.1), (.int p.1.2.2.1), (.int p.1.2.2.2.1), (.int p.1.2.2.2.2), (.int p.2.1), (.int p.2.2.1), (.int p.2.2.2.1), (.int p.2.2.2.2.1), (.int p.2.2.2.2.2), .bool true]) = BD (ps ++ [p]) := by
   unfold BD ad;simp [D.rows, Dh]
  rw [e1, e2];simp
omit [Ar] in
theorem D5 {k : Key} : ∀ s ∈ enl S C T k, s < len T := fun s h => (IE h).1
omit [Ar] in
theorem F9 {k : Key} {r : Bool} : ∀ s ∈ prt T (enl S C T k) r, s < len T := fun s h => D5 s (List.mem_filter.1 h).1
omit [Ar] in
theorem DM {k : Key} {r : Bool} : ∀ s ∈ prt T (enl S C T k) r, s < len T ∧ en S C T k s = true := fun s h => IE (List.mem_filter.1 h).1
omit [Ar] in
theorem Be (hR : Rk S C T) {k : Key} {r : Bool} : (prt T (enl S C T k) r).length ≤ 20 := by
 have := NZ (T := T) (L := enl S C T k) (r := r);have := Dx (S := S) (C := C) (T := T) (k := k);have := hR.t1;omega
theorem LH (hR : Rk S C T) (hR' : Rk S' C' T') {p : PK} (hk : KOk S C p.1) (hk' : KOk S' C' p.2) {r : Bool} : ∃ da db fa fb, NL (prt T (enl S C T p.1) r) da ∧ NL (prt T' (enl S' C' T' p.2) r) db ∧
  MO v0 S C T v0' S' C' T' w8 w9 (.bool b10) w11 w12 (.bool b13) (.int i14) (.int i15) (.int p.1.1) (.int p.1.2.1) (.int p.1.2.2.1) (.int p.1.2.2.2.1) (.int p.1.2.2.2.2) (.int p.2.1) (.int p.2.2.1) (.int p.2.2.2.1) (.int p.2.2.2.2.1) (.int p.2.2.2.2.2) (.bool r) = .row [.int 1, da, .bool fa, db, .bool fb] := by
 have ht := hR.t1;have ht' := hR'.t1;have l1 := Dx (S := S) (C := C) (T := T) (k := p.1);have l2 := Dx (S := S') (C := C') (T := T') (k := p.2);obtain ⟨da, a1, a2⟩ := Wo (v0 := v0) (S := S) (C := C) (T := T) (L := enl S C T p.1) (b := (enl S C T p.1).isEmpty) (r := r) D5 (by omega)
 obtain ⟨db, b1, b2⟩ := Wo (v0 := v0') (S := S') (C := C') (T := T') (L := enl S' C' T' p.2) (b := (enl S' C' T' p.2).isEmpty) (r := r) D5 (by omega)
 refine ⟨da, db, (enl S C T p.1).isEmpty, (enl S' C' T' p.2).isEmpty, a1, b1, ?_⟩;rw [j7 (h0 := rfl) (h1 := rfl), Rt hR hk, Rt hR' hk'];dsimp +instances only [Am, Al, Ac, Af];rw [a2, b2];rfl
def flt (S C T S' C' T' : D) (p : PK) : Nat × Nat :=
 match lk T T' (prt T (enl S C T p.1) true) (prt T' (enl S' C' T' p.2) true) with
 | some s => (1, s)
 | none => match lk T' T (prt T' (enl S' C' T' p.2) false) (prt T (enl S C T p.1) false) with
  | some s => (2, s)
  | none => if 0 < (prt T (enl S C T p.1) false).length ∧ (prt T' (enl S' C' T' p.2) false).length = 0 then (3, 0)
   else if (cl S p.1.1 1).toBool = (cl S' p.2.1 1).toBool then (0, 0) else (4, 0)
theorem Vi (hR : Rk S C T) (hR' : Rk S' C' T') {p : PK} (hk : KOk S C p.1) (hk' : KOk S' C' p.2) :
  WV v0 S C T v0' S' C' T' w8 w9 (.bool b10) w11 w12 (.bool b13) (.int i14) (.int i15) (.int p.1.1) (.int p.1.2.1) (.int p.1.2.2.1) (.int p.1.2.2.2.1) (.int p.1.2.2.2.2) (.int p.2.1) (.int p.2.2.1) (.int p.2.2.2.1) (.int p.2.2.2.2.1) (.int p.2.2.2.2.2) = .row [.int 1, .int ((flt S C T S' C' T' p).1 : Nat), .int ((flt S C T S' C' T' p).2 : Nat)] := by
 have s1 := hk.s0;have s2 := hk.s1;have s3 := hk'.s0;have s4 := hk'.s1;obtain ⟨da, db, fa, fb, a1, a2, a3⟩ := LH (v0 := v0) (v0' := v0') (w8 := w8) (w9 := w9) (w11 := w11) (w12 := w12) (b10 := b10) (b13 := b13) (i14 := i14) (i15 := i15) hR hR' hk hk' (r := true);obtain ⟨dc, dd, fc, fd, c1, c2, c3⟩ := LH (v0 := v0) (v0' := v0') (w8 := w8) (w9 := w9) (w11 := w11) (w12 := w12) (b10 := b10) (b13 := b13) (i14 := i14) (i15 := i15) hR hR' hk hk' (r := false);have m1 : ∀ r, (prt T (enl S C T p.1) r).length < 1000 := fun r => by have := Be hR (k := p.1) (r := r); omega
 have m2 : ∀ r, (prt T' (enl S' C' T' p.2) r).length < 1000 := fun r => by have := Be hR' (k := p.2) (r := r); omega
 rw [iY (h0 := rfl) (h1 := rfl), a3, c3];dsimp +instances only [Am, Al, Ac, Af];rw [ifT (by rfl), VA F9 F9 a1 a2 (m1 _) (m2 _)]
 unfold flt;cases lk T T' (prt T (enl S C T p.1) true) (prt T' (enl S' C' T' p.2) true) with
 | some s => rfl
 | none =>
  unfold lkR;dsimp +instances only [Am, Al, Ac, Af];rw [ifT (by rfl), cond_false, ifT (by rfl), VA F9 F9 c2 c1 (m2 _) (m1 _)]
  cases lk T' T (prt T' (enl S' C' T' p.2) false) (prt T (enl S C T p.1) false) with
  | some s => rfl
  | none =>
   unfold lkR;dsimp +instances only [Am, Al, Ac, Af];rw [ifT (by rfl), cond_false, c1.l, c2.l]
   have fin : cond (decide (p.1.1 < 0)) (.row []) (cond (decide (p.1.1 < (len S : Int))) (cond (decide (p.2.1 < 0)) (.row []) (cond (decide (p.2.1 < (len S' : Int))) (cond ((cl S p.1.1 1).toBool) (cond ((cl S' p.2.1 1).toBool) (D.row [.int 1, (.int 0), (.int 0)]) (.row [.int 1, (.int 4), (.int 0)])) (cond ((cl S' p.2.1 1).toBool) (.row [.int 1, (.int 4), (.int 0)]) (.row [.int 1, (.int 0), (.int 0)]))) (.row []))) (.row [])) =
     .row [.int 1, .int (((if (cl S p.1.1 1).toBool = (cl S' p.2.1 1).toBool then ((0, 0) : Nat × Nat) else (4, 0)).1 : Nat)), .int (((if (cl S p.1.1 1).toBool = (cl S' p.2.1 1).toBool then ((0, 0) : Nat × Nat) else (4, 0)).2 : Nat))] := by
    rw [ifF (by omega), ifT (by omega), ifF (by omega), ifT (by omega)]
    cases (cl S p.1.1 1).toBool <;> cases (cl S' p.2.1 1).toBool <;> rfl
   by_cases q1 : 0 < (prt T (enl S C T p.1) false).length
   ·rw [ifT (by omega)]
    by_cases q2 : (prt T' (enl S' C' T' p.2) false).length = 0
    ·rw [ifT (by omega), if_pos ⟨q1, q2⟩]
     rfl
    ·rw [ifF (by omega), if_neg (fun c => q2 c.2)]
     exact fin
   ·rw [ifF (by omega), if_neg (fun c => q1 c.1)]
    exact fin
omit [Ar] in
theorem Cf.st (hR : Rk S C T) {k : Key} (hk : KOk S C k) {t x : D} (hx : Cf S C k t x) : fd S t = k.1 := by
 have s0 := hk.s0;have s1 := hk.s1;have i1 := hR.sid k.1.toNat (by omega)
 rw [show ((k.1.toNat : Nat) : Int) = k.1 by omega] at i1
 rw [← i1];unfold fd;refine CW fun j _ _ => ?_
 show D.strEq (cl S j 0) t = D.strEq (cl S j 0) (cl S k.1 0);rw [AJ (b := cl S k.1 0), Cq hx.t, AJ]
theorem bW (hR : Rk S C T) (hR' : Rk S' C' T') {p : PK} {t x t' x' : D} (hk : KOk S C p.1) (hk' : KOk S' C' p.2) (hx : Cf S C p.1 t x) (hx' : Cf S' C' p.2 t' x') :
  Xi v0 S C T v0' S' C' T' t x t' x' = .row [.int 1, .int ((flt S C T S' C' T' p).1 : Nat), .int ((flt S C T S' C' T' p).2 : Nat)] := by
 have s1 := hk.s0;have s2 := hk.s1;have s3 := hk'.s0;have s4 := hk'.s1;have ht := hR.t1;have ht' := hR'.t1;have hs := hR.s1;have hs' := hR'.s1;have l1 := Dx (S := S) (C := C) (T := T) (k := p.1);have l2 := Dx (S := S') (C := C') (T := T') (k := p.2);have m1 : ∀ r, (prt T (enl S C T p.1) r).length < 1000 := fun r => by have := Be hR (k := p.1) (r := r); omega
 have m2 : ∀ r, (prt T' (enl S' C' T' p.2) r).length < 1000 := fun r => by have := Be hR' (k := p.2) (r := r); omega
 rw [oo (h0 := rfl) (h1 := rfl) (h2 := rfl) (h3 := rfl) (h4 := rfl) (h5 := rfl), Lh hR hk hx, Lh hR' hk' hx'];dsimp +instances only [Am, Al, Ac, Af];rw [F6 (T := T) (r := true) D5 (by omega), F6 (T := T') (r := true) D5 (by omega), F6 (T := T) (r := false) D5 (by omega), F6 (T := T') (r := false) D5 (by omega)]
 dsimp +instances only [Am, Al, Ac, Af];rw [ifT (by rfl), ifT (by rfl), ifT (by rfl), ifT (by rfl), W0 F9 F9 IB IB (m1 _) (m2 _)]
 unfold flt;cases lk T T' (prt T (enl S C T p.1) true) (prt T' (enl S' C' T' p.2) true) with
 | some s =>
  unfold TK;dsimp +instances only [Am, Al, Ac, Af];rw [ifT (by rfl), ifF (by omega)]
  rfl
 | none =>
  unfold TK;dsimp +instances only [Am, Al, Ac, Af];rw [ifT (by rfl), ifT (by omega), ifT (by rfl), ifT (by rfl), W0 F9 F9 IB IB (m2 _) (m1 _)]
  cases lk T' T (prt T' (enl S' C' T' p.2) false) (prt T (enl S C T p.1) false) with
  | some s =>
   unfold TK;dsimp +instances only [Am, Al, Ac, Af];rw [ifT (by rfl), ifF (by omega)]
   rfl
  | none =>
   unfold TK;dsimp +instances only [Am, Al, Ac, Af];rw [ifT (by rfl), ifT (by omega), AN, AN, LE (by omega), LE (by omega), hx.st hR hk, hx'.st hR' hk']
   dsimp +instances only [Am, Al, Ac, Af];have fin : cond (decide ((1 : Int) = 1)) (cond (decide (p.1.1 < 0)) (.row []) (cond (decide (p.1.1 < (len S : Int))) (cond (decide ((1 : Int) = 1)) (cond (decide (p.2.1 < 0)) (.row []) (cond (decide (p.2.1 < (len S' : Int))) (cond ((cl S p.1.1 1).toBool) (cond ((cl S' p.2.1 1).toBool) (D.row [.int 1, (.int 0), (.int 0)]) (.row [.int 1, (.int 4), (.int 0)])) (cond ((cl S' p.2.1 1).toBool) (.row [.int 1, (.int 4), (.int 0)]) (.row [.int 1, (.int 0), (.int 0)]))) (.row []))) (.row [])) (.row []))) (.row []) =
     .row [.int 1, .int (((if (cl S p.1.1 1).toBool = (cl S' p.2.1 1).toBool then ((0, 0) : Nat × Nat) else (4, 0)).1 : Nat)), .int (((if (cl S p.1.1 1).toBool = (cl S' p.2.1 1).toBool then ((0, 0) : Nat × Nat) else (4, 0)).2 : Nat))] := by
    rw [ifT (by rfl), ifF (by omega), ifT (by omega), ifT (by rfl), ifF (by omega), ifT (by omega)]
    cases (cl S p.1.1 1).toBool <;> cases (cl S' p.2.1 1).toBool <;> rfl
   by_cases q1 : 0 < (prt T (enl S C T p.1) false).length
   ·rw [ifT (by omega)]
    by_cases q2 : (prt T' (enl S' C' T' p.2) false).length = 0
    ·rw [ifT (by omega), if_pos ⟨q1, q2⟩]
     rfl
    ·rw [ifF (by omega), if_neg (fun c => q2 c.2)]
     exact fin
   ·rw [ifF (by omega), if_neg (fun c => q1 c.1)]
    exact fin
end
end Cs
namespace Cs
open Go Go.AE
def nxP (S C T S' C' T' : D) (p : PK) (i m : Nat) : PK := (nx S C T p.1 i, nx S' C' T' p.2 m)
def Fl (S C T S' C' T' : D) (p : PK) (i : Nat) (M : List Nat) : List PK := (M.filter fun m => alk T i T' m).map fun m => nxP S C T S' C' T' p i m
def FA (S C T S' C' T' : D) (p : PK) (m : Nat) (L : List Nat) : List PK := (L.filter fun i => alk T i T' m).map fun i => nxP S C T S' C' T' p i m
def crT (S C T S' C' T' : D) (p : PK) (L M : List Nat) : List PK := L.flatMap fun i => Fl S C T S' C' T' p i M
def crF (S C T S' C' T' : D) (p : PK) (L M : List Nat) : List PK := M.flatMap fun m => FA S C T S' C' T' p m L
def bhd (S C T S' C' T' : D) (p : PK) : List PK :=
 crT S C T S' C' T' p (prt T (enl S C T p.1) true) (prt T' (enl S' C' T' p.2) true) ++ crF S C T S' C' T' p (prt T (enl S C T p.1) false) (prt T' (enl S' C' T' p.2) false)
theorem L4 {S C T S' C' T' : D} {p : PK} {i : Nat} {M : List Nat} : (Fl S C T S' C' T' p i M).length ≤ M.length := by
 unfold Fl;rw [List.length_map];exact List.length_filter_le _ _
theorem Lw {S C T S' C' T' : D} {p : PK} {i : Nat} {M : List Nat} : (FA S C T S' C' T' p i M).length ≤ M.length := by
 unfold FA;rw [List.length_map];exact List.length_filter_le _ _
theorem Kl {S C T S' C' T' : D} {p : PK} {M : List Nat} (hM : M.length ≤ 20) : ∀ {L : List Nat}, (crT S C T S' C' T' p L M).length ≤ 20 * L.length
 | [] => by simp [crT]
 | i :: L => by
  have a := Kl (S := S) (C := C) (T := T) (S' := S') (C' := C') (T' := T') (p := p) hM (L := L);have b := L4 (S := S) (C := C) (T := T) (S' := S') (C' := C') (T' := T') (p := p) (i := i) (M := M);unfold crT at a ⊢;rw [List.flatMap_cons, List.length_append, List.length_cons];omega
theorem RU {S C T S' C' T' : D} {p : PK} {L : List Nat} (hL : L.length ≤ 20) : ∀ {M : List Nat}, (crF S C T S' C' T' p L M).length ≤ 20 * M.length
 | [] => by simp [crF]
 | i :: M => by
  have a := RU (S := S) (C := C) (T := T) (S' := S') (C' := C') (T' := T') (p := p) hL (M := M);have b := Lw (S := S) (C := C) (T := T) (S' := S') (C' := C') (T' := T') (p := p) (i := i) (M := L);unfold crF at a ⊢;rw [List.flatMap_cons, List.length_append, List.length_cons];omega
theorem RX {S C T S' C' T' : D} (hR : Rk S C T) (hR' : Rk S' C' T') {p : PK} : (bhd S C T S' C' T' p).length ≤ 800 := by
 have a := Be hR (k := p.1) (r := true);have b := Be hR (k := p.1) (r := false);have c := Be hR' (k := p.2) (r := true);have d := Be hR' (k := p.2) (r := false);have x := Kl (S := S) (C := C) (T := T) (S' := S') (C' := C') (T' := T') (p := p) c (L := prt T (enl S C T p.1) true);have y := RU (S := S) (C := C) (T := T) (S' := S') (C' := C') (T' := T') (p := p) b (M := prt T' (enl S' C' T' p.2) false);unfold bhd;rw [List.length_append];omega
def POk (S C S' C' : D) (p : PK) : Prop := KOk S C p.1 ∧ KOk S' C' p.2
def G1 (S C S' C' : D) (ps : List PK) : Prop := ∀ p ∈ ps, POk S C S' C' p
theorem Wu {S C T S' C' T' : D} (hR : Rk S C T) (hR' : Rk S' C' T') {p : PK} (hp : POk S C S' C' p) {i m : Nat} (hi : i < len T ∧ en S C T p.1 i = true) (hm : m < len T' ∧ en S' C' T' p.2 m = true) : POk S C S' C' (nxP S C T S' C' T' p i m) :=
 ⟨LX hR hp.1 hi.1 hi.2, LX hR' hp.2 hm.1 hm.2⟩
theorem QN {S C T S' C' T' : D} (hR : Rk S C T) (hR' : Rk S' C' T') {p : PK} (hp : POk S C S' C' p) : G1 S C S' C' (bhd S C T S' C' T' p) := by
 intro q hq;unfold bhd at hq;rcases List.mem_append.1 hq with h | h
 ·obtain ⟨i, hi, h⟩ := List.mem_flatMap.1 h;obtain ⟨m, hm, rfl⟩ := List.mem_map.1 h;exact Wu hR hR' hp (DM i hi) (DM m (List.mem_filter.1 hm).1)
 ·obtain ⟨m, hm, h⟩ := List.mem_flatMap.1 h;obtain ⟨i, hi, rfl⟩ := List.mem_map.1 h;exact Wu hR hR' hp (DM i (List.mem_filter.1 hi).1) (DM m hm)
theorem Ed {S C S' C' : D} : ∀ {l ps : List PK}, G1 S C S' C' l → G1 S C S' C' ps → G1 S C S' C' (l.foldl Bb ps)
 | [], ps => fun _ h => h
 | q :: l, ps => fun hl h => by
  rw [List.foldl_cons];refine Ed (fun x hx => hl x (List.mem_cons_of_mem _ hx)) fun x hx => ?_
  unfold Bb at hx;split at hx
  ·exact h x hx
  ·rcases List.mem_append.1 hx with z | z
   ·exact h x z
   ·rw [List.mem_singleton.1 z];exact hl q List.mem_cons_self
section
variable [Ar]
variable {v0 S C T v0' S' C' T' : D} {w8 w9 w11 w12 : D} {b10 b13 : Bool} {i14 i15 : Int}
theorem Ko (hR : Rk S C T) {k : Key} (hk : KOk S C k) {s : Nat} (hs : s < len T ∧ en S C T k s = true) : G9 (.int k.1) (.int k.2.1) (.int k.2.2.1) (.int k.2.2.2.1) (.int k.2.2.2.2) v0 S C T (.int (s : Nat)) = .row [.int 1, .int (nx S C T k s).1, .int (nx S C T k s).2.1, .int (nx S C T k s).2.2.1, .int (nx S C T k s).2.2.2.1, .int (nx S C T k s).2.2.2.2] := We hR hk hs.1 hs.2
theorem Rh (hR : Rk S C T) (hR' : Rk S' C' T') {p : PK} (hp : POk S C S' C' p) {s i n : Nat} (hs : s < len T ∧ en S C T p.1 s = true) {da db : D} {fa fb : Bool} {M : List Nat} (hM : ∀ m ∈ M, m < len T' ∧ en S' C' T' p.2 m = true) (hd : NL M db) (hMn : M.length < 1000) (hi : i < 100000) :
  ∀ (rem pre : List Nat) (ps : List PK), M = pre ++ rem → ps.length + rem.length < 1073741824 →
  OR db (.bool fb) (.int (s : Nat)) da (.bool fa) (.int (n : Nat)) (.int (i : Nat)) (.int (pre.length : Nat)) v0 S C T v0' S' C' T' w8 w9 (.bool b10) w11 w12 (.bool b13) (.int i14) (.int i15) (AO ps) (.bool (ps).isEmpty) (BD ps) (.int p.1.1) (.int p.1.2.1) (.int p.1.2.2.1) (.int p.1.2.2.2.1) (.int p.1.2.2.2.2) (.int p.2.1) (.int p.2.2.1) (.int p.2.2.2.1) (.int p.2.2.2.2.1) (.int p.2.2.2.2.2) = Nf db (.bool fb) da (.bool fa) (.int (n : Nat)) (.int (i + 1 : Nat)) v0 S C T v0' S' C' T' w8 w9 (.bool b10) w11 w12 (.bool b13) (.int i14) (.int i15) (AO ((Fl S C T S' C' T' p s rem).foldl Bb ps)) (.bool (((Fl S C T S' C' T' p s rem).foldl Bb ps)).isEmpty) (BD ((Fl S C T S' C' T' p s rem).foldl Bb ps)) (.int p.1.1) (.int p.1.2.1) (.int p.1.2.2.1) (.int p.1.2.2.2.1) (.int p.1.2.2.2.2) (.int p.2.1) (.int p.2.2.1) (.int p.2.2.2.1) (.int p.2.2.2.2.1) (.int p.2.2.2.2.2)
 | [], pre, ps => fun e hl => by
  have : M.length = pre.length := by rw [e]; simp
  rw [Zn (h0 := rfl) (h1 := rfl) (h2 := rfl), hd.l, ifF (by omega), AG (by omega)]
  rfl
 | m :: rem, pre, ps => fun e hl => by
  have hg := CF e;have hp' : pre.length < M.length := by rw [e]; simp
  have hm := hM m (by rw [e]; simp)
  have e' : M = (pre ++ [m]) ++ rem := by rw [e]; simp
  have epl : (pre ++ [m]).length = pre.length + 1 := by simp
  have hll : (m :: rem).length = rem.length + 1 := rfl;have F1 := Ko (v0 := v0) hR hp.1 hs;have F0 : G9 (.int p.2.1) (.int p.2.2.1) (.int p.2.2.2.1) (.int p.2.2.2.2.1) (.int p.2.2.2.2.2) v0' S' C' T' (cl db (pre.length : Nat) 0) = .row [.int 1, (.int (nx S' C' T' p.2 m).1), (.int (nx S' C' T' p.2 m).2.1), (.int (nx S' C' T' p.2 m).2.2.1), (.int (nx S' C' T' p.2 m).2.2.2.1), (.int (nx S' C' T' p.2 m).2.2.2.2)] := by rw [hd.c _ _ hg]; exact Ko (v0 := v0') hR' hp.2 hm
  have F2 := QU (ps := ps) (p := nxP S C T S' C' T' p s m) (by omega)
  have al := E8 (ps := ps) (p := nxP S C T S' C' T' p s m);rw [Zn (h0 := F0) (h1 := F1) (h2 := F2), hd.l, ifT (by omega), ifF (by omega), ifF (by omega), ifT (by omega), hd.c _ _ hg, Ac, ifF (by omega), ifT (by omega), AG (by omega)]
  show cond (alk T s T' m) _ _ = _;unfold Fl;cases q : alk T s T' m
  ·have ih := Rh (s := s) (i := i) (n := n) (da := da) (fa := fa) (fb := fb) hR hR' hp hs hM hd hMn hi rem (pre ++ [m]) ps e' (by omega)
   rw [epl] at ih;rw [List.filter_cons_of_neg (by simp [q])]
   exact ih
  ·have ih := Rh (s := s) (i := i) (n := n) (da := da) (fa := fa) (fb := fb) hR hR' hp hs hM hd hMn hi rem (pre ++ [m]) (Bb ps (nxP S C T S' C' T' p s m)) e' (by omega)
   rw [epl] at ih;rw [List.filter_cons_of_pos (by simp [q]), List.map_cons, List.foldl_cons]
   exact ih
theorem RW (hR : Rk S C T) (hR' : Rk S' C' T') {p : PK} (hp : POk S C S' C' p) {da db : D} {fa fb : Bool} {L M : List Nat} (hL : ∀ s ∈ L, s < len T ∧ en S C T p.1 s = true) (hM : ∀ m ∈ M, m < len T' ∧ en S' C' T' p.2 m = true) (hda : NL L da) (hdb : NL M db) (hLn : L.length < 1000) (hMn : M.length < 1000) :
  ∀ (rem pre : List Nat) (ps : List PK), L = pre ++ rem → ps.length + rem.length * M.length < 1073741824 →
  Nf db (.bool fb) da (.bool fa) (.int (L.length : Nat)) (.int (pre.length : Nat)) v0 S C T v0' S' C' T' w8 w9 (.bool b10) w11 w12 (.bool b13) (.int i14) (.int i15) (AO ps) (.bool (ps).isEmpty) (BD ps) (.int p.1.1) (.int p.1.2.1) (.int p.1.2.2.1) (.int p.1.2.2.2.1) (.int p.1.2.2.2.2) (.int p.2.1) (.int p.2.2.1) (.int p.2.2.2.1) (.int p.2.2.2.2.1) (.int p.2.2.2.2.2) = Nf db (.bool fb) da (.bool fa) (.int (L.length : Nat)) (.int (L.length : Nat)) v0 S C T v0' S' C' T' w8 w9 (.bool b10) w11 w12 (.bool b13) (.int i14) (.int i15) (AO ((crT S C T S' C' T' p rem M).foldl Bb ps)) (.bool (((crT S C T S' C' T' p rem M).foldl Bb ps)).isEmpty) (BD ((crT S C T S' C' T' p rem M).foldl Bb ps)) (.int p.1.1) (.int p.1.2.1) (.int p.1.2.2.1) (.int p.1.2.2.2.1) (.int p.1.2.2.2.2) (.int p.2.1) (.int p.2.2.1) (.int p.2.2.2.1) (.int p.2.2.2.2.1) (.int p.2.2.2.2.2)
 | [], pre, ps => fun e hl => by
  have : L.length = pre.length := by rw [e]; simp
  rw [this];rfl
 | s :: rem, pre, ps => fun e hl => by
  have hg := CF e;have hp' : pre.length < L.length := by rw [e]; simp
  have hs := hL s (by rw [e]; simp)
  have e' : L = (pre ++ [s]) ++ rem := by rw [e]; simp
  have epl : (pre ++ [s]).length = pre.length + 1 := by simp
  have hll : (s :: rem).length * M.length = rem.length * M.length + M.length := by rw [List.length_cons, Nat.succ_mul]
  have rl := L4 (S := S) (C := C) (T := T) (S' := S') (C' := C') (T' := T') (p := p) (i := s) (M := M);have al := CQ (l := Fl S C T S' C' T' p s M) (ps := ps);have ih := RW (da := da) (db := db) (fa := fa) (fb := fb) hR hR' hp hL hM hda hdb hLn hMn rem (pre ++ [s]) ((Fl S C T S' C' T' p s M).foldl Bb ps) e' (by omega)
  rw [epl] at ih;have I := Rh (s := s) (i := pre.length) (n := L.length) (da := da) (fa := fa) (fb := fb) (w8 := w8) (w9 := w9) (w11 := w11) (w12 := w12) (b10 := b10) (b13 := b13) (i14 := i14) (i15 := i15) (v0 := v0) (v0' := v0') hR hR' hp hs hM hdb hMn (by omega) M [] ps rfl (by omega)
  rw [ac (h0 := rfl), ifT (by omega), ifF (by omega), hda.l, ifT (by omega), hda.c _ _ hg]
  refine I.trans (ih.trans ?_);unfold crT;rw [List.flatMap_cons, List.foldl_append]
theorem NT (hR : Rk S C T) (hR' : Rk S' C' T') {p : PK} (hp : POk S C S' C' p) {s i n : Nat} (hs : s < len T' ∧ en S' C' T' p.2 s = true) {da db : D} {fa fb : Bool} {L : List Nat} (hL : ∀ m ∈ L, m < len T ∧ en S C T p.1 m = true) (hd : NL L da) (hLn : L.length < 1000) (hi : i < 100000) :
  ∀ (rem pre : List Nat) (ps : List PK), L = pre ++ rem → ps.length + rem.length < 1073741824 →
  O1 da (.bool fa) (.int (s : Nat)) db (.bool fb) (.int (n : Nat)) (.int (i : Nat)) (.int (pre.length : Nat)) v0 S C T v0' S' C' T' w8 w9 (.bool b10) w11 w12 (.bool b13) (.int i14) (.int i15) (AO ps) (.bool (ps).isEmpty) (BD ps) (.int p.1.1) (.int p.1.2.1) (.int p.1.2.2.1) (.int p.1.2.2.2.1) (.int p.1.2.2.2.2) (.int p.2.1) (.int p.2.2.1) (.int p.2.2.2.1) (.int p.2.2.2.2.1) (.int p.2.2.2.2.2) = PH da (.bool fa) db (.bool fb) (.int (n : Nat)) (.int (i + 1 : Nat)) v0 S C T v0' S' C' T' w8 w9 (.bool b10) w11 w12 (.bool b13) (.int i14) (.int i15) (AO ((FA S C T S' C' T' p s rem).foldl Bb ps)) (.bool (((FA S C T S' C' T' p s rem).foldl Bb ps)).isEmpty) (BD ((FA S C T S' C' T' p s rem).foldl Bb ps)) (.int p.1.1) (.int p.1.2.1) (.int p.1.2.2.1) (.int p.1.2.2.2.1) (.int p.1.2.2.2.2) (.int p.2.1) (.int p.2.2.1) (.int p.2.2.2.1) (.int p.2.2.2.2.1) (.int p.2.2.2.2.2)
 | [], pre, ps => fun e hl => by
  have : L.length = pre.length := by rw [e]; simp
  rw [ah (h0 := rfl) (h1 := rfl) (h2 := rfl), hd.l, ifF (by omega), AG (by omega)]
  rfl
 | m :: rem, pre, ps => fun e hl => by
  have hg := CF e;have hp' : pre.length < L.length := by rw [e]; simp
  have hm := hL m (by rw [e]; simp)
  have e' : L = (pre ++ [m]) ++ rem := by rw [e]; simp
  have epl : (pre ++ [m]).length = pre.length + 1 := by simp
  have hll : (m :: rem).length = rem.length + 1 := rfl;have F1 := Ko (v0 := v0') hR' hp.2 hs;have F0 : G9 (.int p.1.1) (.int p.1.2.1) (.int p.1.2.2.1) (.int p.1.2.2.2.1) (.int p.1.2.2.2.2) v0 S C T (cl da (pre.length : Nat) 0) = .row [.int 1, (.int (nx S C T p.1 m).1), (.int (nx S C T p.1 m).2.1), (.int (nx S C T p.1 m).2.2.1), (.int (nx S C T p.1 m).2.2.2.1), (.int (nx S C T p.1 m).2.2.2.2)] := by rw [hd.c _ _ hg]; exact Ko (v0 := v0) hR hp.1 hm
  have F2 := QU (ps := ps) (p := nxP S C T S' C' T' p m s) (by omega)
  have al := E8 (ps := ps) (p := nxP S C T S' C' T' p m s);rw [ah (h0 := F0) (h1 := F1) (h2 := F2), hd.l, ifT (by omega), ifF (by omega), hd.c _ _ hg, Ac, ifF (by omega), ifT (by omega), ifF (by omega), ifT (by omega), AG (by omega)]
  show cond (alk T m T' s) _ _ = _;unfold FA;cases q : alk T m T' s
  ·have ih := NT (s := s) (i := i) (n := n) (db := db) (fa := fa) (fb := fb) hR hR' hp hs hL hd hLn hi rem (pre ++ [m]) ps e' (by omega)
   rw [epl] at ih;rw [List.filter_cons_of_neg (by simp [q])]
   exact ih
  ·have ih := NT (s := s) (i := i) (n := n) (db := db) (fa := fa) (fb := fb) hR hR' hp hs hL hd hLn hi rem (pre ++ [m]) (Bb ps (nxP S C T S' C' T' p m s)) e' (by omega)
   rw [epl] at ih;rw [List.filter_cons_of_pos (by simp [q]), List.map_cons, List.foldl_cons]
   exact ih
theorem O7 (hR : Rk S C T) (hR' : Rk S' C' T') {p : PK} (hp : POk S C S' C' p) {da db : D} {fa fb : Bool} {L M : List Nat} (hL : ∀ s ∈ L, s < len T ∧ en S C T p.1 s = true) (hM : ∀ m ∈ M, m < len T' ∧ en S' C' T' p.2 m = true) (hda : NL L da) (hdb : NL M db) (hLn : L.length < 1000) (hMn : M.length < 1000) :
  ∀ (rem pre : List Nat) (ps : List PK), M = pre ++ rem → ps.length + rem.length * L.length < 1073741824 →
  PH da (.bool fa) db (.bool fb) (.int (M.length : Nat)) (.int (pre.length : Nat)) v0 S C T v0' S' C' T' w8 w9 (.bool b10) w11 w12 (.bool b13) (.int i14) (.int i15) (AO ps) (.bool (ps).isEmpty) (BD ps) (.int p.1.1) (.int p.1.2.1) (.int p.1.2.2.1) (.int p.1.2.2.2.1) (.int p.1.2.2.2.2) (.int p.2.1) (.int p.2.2.1) (.int p.2.2.2.1) (.int p.2.2.2.2.1) (.int p.2.2.2.2.2) = .row [.int 1, .bool false, v0, S, C, T, v0', S', C', T', w8, w9, (.bool b10), w11, w12, (.bool b13), (.int i14), (.int i15), (AO ((crF S C T S' C' T' p L rem).foldl Bb ps)), (.bool (((crF S C T S' C' T' p L rem).foldl Bb ps)).isEmpty), (BD ((crF S C T S' C' T' p L rem).foldl Bb ps))]
 | [], pre, ps => fun e hl => by
  have : M.length = pre.length := by rw [e]; simp
  rw [ZT, ifF (by omega)]
  rfl
 | s :: rem, pre, ps => fun e hl => by
  have hg := CF e;have hp' : pre.length < M.length := by rw [e]; simp
  have hs := hM s (by rw [e]; simp)
  have e' : M = (pre ++ [s]) ++ rem := by rw [e]; simp
  have epl : (pre ++ [s]).length = pre.length + 1 := by simp
  have hll : (s :: rem).length * L.length = rem.length * L.length + L.length := by rw [List.length_cons, Nat.succ_mul]
  have rl := Lw (S := S) (C := C) (T := T) (S' := S') (C' := C') (T' := T') (p := p) (i := s) (M := L);have al := CQ (l := FA S C T S' C' T' p s L) (ps := ps);have ih := O7 (da := da) (db := db) (fa := fa) (fb := fb) hR hR' hp hL hM hda hdb hLn hMn rem (pre ++ [s]) ((FA S C T S' C' T' p s L).foldl Bb ps) e' (by omega)
  rw [epl] at ih;have I := NT (s := s) (i := pre.length) (n := M.length) (db := db) (fa := fa) (fb := fb) (w8 := w8) (w9 := w9) (w11 := w11) (w12 := w12) (b10 := b10) (b13 := b13) (i14 := i14) (i15 := i15) (v0 := v0) (v0' := v0') hR hR' hp hs hL hda hLn (by omega) L [] ps rfl (by omega)
  rw [ZT, ifT (by omega), ifF (by omega), hdb.l, ifT (by omega), hdb.c _ _ hg]
  refine I.trans (ih.trans ?_);unfold crF;rw [List.flatMap_cons, List.foldl_append]
theorem cB (hR : Rk S C T) (hR' : Rk S' C' T') {p : PK} (hp : POk S C S' C' p) {ps : List PK} (hl : ps.length < 100000000) (hf : (flt S C T S' C' T' p).1 = 0) :
  MF v0 S C T v0' S' C' T' w8 w9 (.bool b10) w11 w12 (.bool b13) (.int i14) (.int i15) (.int p.1.1) (.int p.1.2.1) (.int p.1.2.2.1) (.int p.1.2.2.2.1) (.int p.1.2.2.2.2) (.int p.2.1) (.int p.2.2.1) (.int p.2.2.2.1) (.int p.2.2.2.2.1) (.int p.2.2.2.2.2) (AO ps) (.bool (ps).isEmpty) (BD ps) = .row [.int 1, .bool false, v0, S, C, T, v0', S', C', T', w8, w9, (.bool b10), w11, w12, (.bool b13), (.int i14), (.int i15), (AO ((bhd S C T S' C' T' p).foldl Bb ps)), (.bool (((bhd S C T S' C' T' p).foldl Bb ps)).isEmpty), (BD ((bhd S C T S' C' T' p).foldl Bb ps))] := by
 obtain ⟨da, db, fa, fb, a1, a2, a3⟩ := LH (v0 := v0) (v0' := v0') (w8 := w8) (w9 := w9) (w11 := w11) (w12 := w12) (b10 := b10) (b13 := b13) (i14 := i14) (i15 := i15) hR hR' hp.1 hp.2 (r := true);obtain ⟨dc, dd, fc, fd, c1, c2, c3⟩ := LH (v0 := v0) (v0' := v0') (w8 := w8) (w9 := w9) (w11 := w11) (w12 := w12) (b10 := b10) (b13 := b13) (i14 := i14) (i15 := i15) hR hR' hp.1 hp.2 (r := false);have m1 := fun r => Be hR (k := p.1) (r := r)
 have m2 := fun r => Be hR' (k := p.2) (r := r)
 have x1 := m1 true;have x2 := m2 true;have x3 := m1 false;have x4 := m2 false;have y1 : (prt T (enl S C T p.1) true).length * (prt T' (enl S' C' T' p.2) true).length ≤ 20 * 20 := Nat.mul_le_mul x1 x2;have y2 : (prt T' (enl S' C' T' p.2) false).length * (prt T (enl S C T p.1) false).length ≤ 20 * 20 := Nat.mul_le_mul x4 x3;have cl1 := Kl (S := S) (C := C) (T := T) (S' := S') (C' := C') (T' := T') (p := p) x2 (L := prt T (enl S C T p.1) true);have al1 := CQ (l := crT S C T S' C' T' p (prt T (enl S C T p.1) true) (prt T' (enl S' C' T' p.2) true)) (ps := ps);have A := RW (da := da) (db := db) (fa := fa) (fb := fb) (w8 := w8) (w9 := w9) (w11 := w11) (w12 := w12) (b10 := b10) (b13 := b13) (i14 := i14) (i15 := i15) (v0 := v0) (v0' := v0') hR hR' hp (L := prt T (enl S C T p.1) true) (M := prt T' (enl S' C' T' p.2) true) DM DM a1 a2 (by omega) (by omega) (prt T (enl S C T p.1) true) [] ps rfl (by omega)
 have B := O7 (da := dc) (db := dd) (fa := fc) (fb := fd) (w8 := w8) (w9 := w9) (w11 := w11) (w12 := w12) (b10 := b10) (b13 := b13) (i14 := i14) (i15 := i15) (v0 := v0) (v0' := v0') hR hR' hp (L := prt T (enl S C T p.1) false) (M := prt T' (enl S' C' T' p.2) false) DM DM c1 c2 (by omega) (by omega) (prt T' (enl S' C' T' p.2) false) [] ((crT S C T S' C' T' p (prt T (enl S C T p.1) true) (prt T' (enl S' C' T' p.2) true)).foldl Bb ps) rfl (by omega)
 rw [Z8 (h0 := a3) (h1 := Vi hR hR' hp.1 hp.2), hf];dsimp +instances only [Am, Al, Ac, Af];rw [ifT (by rfl), ifT (by rfl), ifT (by rfl), a1.l]
 refine A.trans ?_;rw [ac (h0 := c3), ifF (by omega)]
 dsimp +instances only [Am, Al, Ac, Af];rw [ifT (by rfl), c2.l]
 refine B.trans ?_;unfold bhd;rw [List.foldl_append]
theorem Zc (hR : Rk S C T) (hR' : Rk S' C' T') {p : PK} (hp : POk S C S' C' p) {ps : List PK} (hf : (flt S C T S' C' T' p).1 ≠ 0) :
  ∃ x x', Cf S C p.1 (cl S p.1.1 0) x ∧ Cf S' C' p.2 (cl S' p.2.1 0) x' ∧
  MF v0 S C T v0' S' C' T' w8 w9 (.bool b10) w11 w12 (.bool b13) (.int i14) (.int i15) (.int p.1.1) (.int p.1.2.1) (.int p.1.2.2.1) (.int p.1.2.2.2.1) (.int p.1.2.2.2.2) (.int p.2.1) (.int p.2.2.1) (.int p.2.2.2.1) (.int p.2.2.2.2.1) (.int p.2.2.2.2.2) (AO ps) (.bool (ps).isEmpty) (BD ps) = .row [.int 1, .bool true, v0, S, C, T, v0', S', C', T', cl S p.1.1 0, x, .bool false, cl S' p.2.1 0, x', .bool false, .int ((flt S C T S' C' T' p).1 : Nat), .int ((flt S C T S' C' T' p).2 : Nat), (AO ps), (.bool (ps).isEmpty), (BD ps)] := by
 obtain ⟨da, db, fa, fb, a1, a2, a3⟩ := LH (v0 := v0) (v0' := v0') (w8 := w8) (w9 := w9) (w11 := w11) (w12 := w12) (b10 := b10) (b13 := b13) (i14 := i14) (i15 := i15) hR hR' hp.1 hp.2 (r := true);obtain ⟨x, x1, x2⟩ := WJ (v0 := v0) hR hp.1;obtain ⟨y, y1, y2⟩ := WJ (v0 := v0') hR' hp.2;refine ⟨x, y, x2, y2, ?_⟩;rw [Z8 (h0 := a3) (h1 := Vi hR hR' hp.1 hp.2)];dsimp +instances only [Am, Al, Ac, Af];rw [ifT (by rfl), ifF (by omega), x1, y1]
 rfl
end
end Cs
namespace Cs
open Go Go.AE
def srP (S C T S' C' T' : D) : Nat → List PK → Nat → Option PK × List PK
 | 0, ps, _ => (none, ps)
 | f + 1, ps, i => match ps[i]? with
  | none => (none, ps)
  | some p => if (flt S C T S' C' T' p).1 = 0 then srP S C T S' C' T' f ((bhd S C T S' C' T' p).foldl Bb ps) (i + 1) else (some p, ps)
theorem Vs {ps : List PK} {p : PK} : ad (AO ps) (.row (Dh p)) = AO (ps ++ [p]) := by
 unfold AO ad;simp [D.rows]
def YB (S C S' C' : D) (T T' : D) (v0 v0' : D) (w8 w9 w10 w11 w12 w13 w14 w15 : D) (d : D) : Option PK × List PK → Prop
 | (none, ps) => d = .row [.int 1, AO ps, .bool ps.isEmpty, .bool (decide (4000 < (ps.length : Int))), v0, S, C, T, v0', S', C', T', w8, w9, w10, w11, w12, w13, w14, w15]
 | (some p, ps) => ∃ x x', POk S C S' C' p ∧ Cf S C p.1 (cl S p.1.1 0) x ∧ Cf S' C' p.2 (cl S' p.2.1 0) x' ∧ (flt S C T S' C' T' p).1 ≠ 0 ∧
  d = .row [.int 1, AO ps, .bool ps.isEmpty, .bool false, v0, S, C, T, v0', S', C', T', cl S p.1.1 0, x, .bool false, cl S' p.2.1 0, x', .bool false, .int ((flt S C T S' C' T' p).1 : Nat), .int ((flt S C T S' C' T' p).2 : Nat)]
section
variable [Ar]
variable {v0 S C T v0' S' C' T' : D} {w8 w9 w11 w12 : D} {b10 b13 : Bool} {i14 i15 : Int}
theorem PW (hR : Rk S C T) (hR' : Rk S' C' T') {w : D} : ∀ {f i : Nat} {ps : List PK}, i + f = 4000 → ps.length ≤ 10000 + 800 * i → G1 S C S' C' ps →
  YB S C S' C' T T' v0 v0' w8 w9 (.bool b10) w11 w12 (.bool b13) (.int i14) (.int i15) (O8 (.int 4000) (.int (i : Nat)) w v0 S C T v0' S' C' T' w8 w9 (.bool b10) w11 w12 (.bool b13) (.int i14) (.int i15) (AO ps) (.bool (ps).isEmpty) (BD ps)) (srP S C T S' C' T' f ps i)
 | 0, i, ps => fun h hl ho => by
  show _ = _;rw [Sr (h0 := rfl), CY];by_cases c : i < ps.length
  ·rw [ifT (by omega), ifF (by omega)]
  ·rw [ifF (by omega)]
 | f + 1, i, ps => fun h hl ho => by
  rw [srP];by_cases c : i < ps.length
  ·have hg : ps[i]? = some ps[i] := List.getElem?_eq_getElem c;have hp := ho _ (List.getElem_mem c);have hb := RX hR hR' (p := ps[i]);have al := CQ (l := bhd S C T S' C' T' ps[i]) (ps := ps)
   have F0 : ∀ X, MF v0 S C T v0' S' C' T' w8 w9 (.bool b10) w11 w12 (.bool b13) (.int i14) (.int i15) (.int ps[i].1.1) (.int ps[i].1.2.1) (.int ps[i].1.2.2.1) (.int ps[i].1.2.2.2.1) (.int ps[i].1.2.2.2.2) (.int ps[i].2.1) (.int ps[i].2.2.1) (.int ps[i].2.2.2.1) (.int ps[i].2.2.2.2.1) (.int ps[i].2.2.2.2.2) (AO ps) (.bool (ps).isEmpty) (BD ps) = X → MF v0 S C T v0' S' C' T' w8 w9 (.bool b10) w11 w12 (.bool b13) (.int i14) (.int i15) (cl (AO ps) (i : Nat) 0) (cl (AO ps) (i : Nat) 1) (cl (AO ps) (i : Nat) 2) (cl (AO ps) (i : Nat) 3) (cl (AO ps) (i : Nat) 4) (cl (AO ps) (i : Nat) 5) (cl (AO ps) (i : Nat) 6) (cl (AO ps) (i : Nat) 7) (cl (AO ps) (i : Nat) 8) (cl (AO ps) (i : Nat) 9) (AO ps) (.bool (ps).isEmpty) (BD ps) = X := fun X h => by
    rw [A0 hg, A0 hg, A0 hg, A0 hg, A0 hg, A0 hg, A0 hg, A0 hg, A0 hg, A0 hg];exact h
   rw [hg];show YB S C S' C' T T' v0 v0' w8 w9 (.bool b10) w11 w12 (.bool b13) (.int i14) (.int i15) _ (if (flt S C T S' C' T' ps[i]).1 = 0 then srP S C T S' C' T' f ((bhd S C T S' C' T' ps[i]).foldl Bb ps) (i + 1) else (some ps[i], ps))
   by_cases q : (flt S C T S' C' T' ps[i]).1 = 0
   ·have N := F0 _ (cB (v0 := v0) (v0' := v0') (w8 := w8) (w9 := w9) (w11 := w11) (w12 := w12) (b10 := b10) (b13 := b13) (i14 := i14) (i15 := i15) hR hR' hp (by omega) q)
    rw [if_pos q, Sr (h0 := N), CY, ifT (by omega), ifT (by omega), ifF (by omega)]
    dsimp +instances only [Am, Al, Ac, Af];rw [ifT (by rfl), cond_false, AG (by omega)]
    exact PW hR hR' (by omega) (by omega) (Ed (QN hR hR' hp) ho)
   ·obtain ⟨x, x', x1, x2, x3⟩ := Zc (v0 := v0) (v0' := v0') (w8 := w8) (w9 := w9) (w11 := w11) (w12 := w12) (b10 := b10) (b13 := b13) (i14 := i14) (i15 := i15) hR hR' hp (ps := ps) q;rw [if_neg q, Sr (h0 := F0 _ x3), CY, ifT (by omega), ifT (by omega), ifF (by omega)]
    dsimp +instances only [Am, Al, Ac, Af];rw [ifT (by rfl), cond_true]
    exact ⟨x, x', hp, x1, x2, q, rfl⟩
  ·rw [List.getElem?_eq_none (by omega)]
   show _ = _;rw [Sr (h0 := rfl), CY, ifF (by omega)]
theorem Mz {fs : List PK} {b : Bool} (hn : fs.length < 10000) : ∀ (rem pre : List PK) (ps : List PK), fs = pre ++ rem → ps.length ≤ pre.length →
  Pj (.int 4000) (AO fs) (.bool b) (.int (pre.length : Nat)) v0 S C T v0' S' C' T' w8 w9 (.bool b10) w11 w12 (.bool b13) (.int i14) (.int i15) (AO ps) (.bool (ps).isEmpty) (BD ps) = O8 (.int 4000) (.int 0) (AO fs) v0 S C T v0' S' C' T' w8 w9 (.bool b10) w11 w12 (.bool b13) (.int i14) (.int i15) (AO (rem.foldl Bb ps)) (.bool ((rem.foldl Bb ps)).isEmpty) (BD (rem.foldl Bb ps))
 | [], pre, ps => fun e hl => by
  have : fs.length = pre.length := by rw [e]; simp
  rw [ZN, CY, ifF (by omega)]
  rfl
 | q :: rem, pre, ps => fun e hl => by
  have hg : fs[pre.length]? = some q := by rw [e]; simp
  have hp : pre.length < fs.length := by rw [e]; simp
  have e' : fs = (pre ++ [q]) ++ rem := by rw [e]; simp
  have epl : (pre ++ [q]).length = pre.length + 1 := by simp
  have al := E8 (ps := ps) (p := q);have F := QU (ps := ps) (p := q) (by omega)
  have ih := Mz (b := b) hn rem (pre ++ [q]) (Bb ps q) e' (by omega)
  rw [epl] at ih;rw [ZN, CY, ifT (by omega), ifF (by omega), A0 hg, A0 hg, A0 hg, A0 hg, A0 hg, A0 hg, A0 hg, A0 hg, A0 hg, A0 hg, AG (by omega)]
  have F : H3 (AO ps) (.bool (ps).isEmpty) (BD ps) ((Dh q).getD 0 default) ((Dh q).getD 1 default) ((Dh q).getD 2 default) ((Dh q).getD 3 default) ((Dh q).getD 4 default) ((Dh q).getD 5 default) ((Dh q).getD 6 default) ((Dh q).getD 7 default) ((Dh q).getD 8 default) ((Dh q).getD 9 default) = .row [.int 1, AO (Bb ps q), .bool (Bb ps q).isEmpty, BD (Bb ps q)] := F;rw [F];dsimp +instances only [Am, Al, Ac, Af];rw [ifT (by rfl)]
  exact ih
theorem dU (hR : Rk S C T) (hR' : Rk S' C' T') {fs : List PK} {b : Bool} (hn : fs.length < 10000) (ho : G1 S C S' C' fs) :
  YB S C S' C' T T' v0 v0' w8 w9 (.bool b10) w11 w12 (.bool b13) (.int i14) (.int i15) (Wv (AO fs) (.bool b) (.int 4000) v0 S C T v0' S' C' T' w8 w9 (.bool b10) w11 w12 (.bool b13) (.int i14) (.int i15)) (srP S C T S' C' T' 4000 (fs.foldl Bb []) 0) := by
 have al := CQ (l := fs) (ps := []);have F := Mz (w8 := w8) (w9 := w9) (w11 := w11) (w12 := w12) (b10 := b10) (b13 := b13) (i14 := i14) (i15 := i15) (v0 := v0) (v0' := v0') (S := S) (C := C) (T := T) (S' := S') (C' := C') (T' := T') (b := b) hn fs [] [] rfl (Nat.le_refl _);rw [iU, show Pj (.int 4000) (AO fs) (.bool b) (.int 0) v0 S C T v0' S' C' T' w8 w9 (.bool b10) w11 w12 (.bool b13) (.int i14) (.int i15) AB (.bool true) Aw = _ from F]
 simp only [List.length_nil, Nat.zero_add] at al;exact PW hR hR' (i := 0) (by omega) (by omega) (Ed ho fun x hx => by cases hx)
end
end Cs
namespace Cs
open Go Go.AE
structure RP (S C S' C' : D) (ps : List PK) (d : D) : Prop where
 l : len d = ps.length
 c : ∀ (i : Nat) (p : PK), ps[i]? = some p → Cf S C p.1 (cl d i 0) (cl d i 1) ∧ Cf S' C' p.2 (cl d i 2) (cl d i 3)
theorem RP.ad {S C S' C' : D} {ps : List PK} {d t x t' x' : D} {p : PK} (h : RP S C S' C' ps d) (hx : Cf S C p.1 t x) (hx' : Cf S' C' p.2 t' x') : RP S C S' C' (ps ++ [p]) (ad d (.row [t, x, t', x'])) := by
 refine ⟨by rw [Bp, h.l]; simp, fun i k' hi => ?_⟩
 rw [MK (by omega), MK (by omega), MK (by omega), MK (by omega), h.l]
 by_cases c : i < ps.length
 ·rw [List.getElem?_append_left c] at hi;rw [if_neg (by omega), if_neg (by omega), if_neg (by omega), if_neg (by omega)]
  exact h.c i k' hi
 ·have hlt : i < (ps ++ [p]).length := by
   rcases Nat.lt_or_ge i (ps ++ [p]).length with q | q
   ·exact q
   ·rw [List.getElem?_eq_none q] at hi;cases hi
  simp at hlt;have : i = ps.length := by omega
  subst this;simp at hi;subst hi;rw [if_pos rfl, if_pos rfl, if_pos rfl, if_pos rfl];exact ⟨hx, hx'⟩
theorem RH {S C S' C' d : D} (h : len d = 0) : RP S C S' C' [] d := ⟨h, fun i p h => by simp at h⟩
section
variable [Ar]
variable {v0 S C T v0' S' C' T' : D}
theorem NO (hR : Rk S C T) {k k' : Key} {t x t' x' : D} (hk : KOk S C k) (hk' : KOk S C k') (h : Cf S C k t x) (h' : Cf S C k' t' x') : FQ t x t' x' = .row [.int 1, .bool (decide (k = k'))] := by
 have hc := hR.c1;have key := Cf.key hR hk hk' h h';rw [Zp];cases e : D.strEq t t'
 ·rw [cond_false, decide_eq_false (fun q => by rw [← key, e] at q; cases q.1)]
 rw [cond_true, h.l, h'.l, ifT (by rfl)]
 have L := DH (F := fun i => JB (.int (i : Nat)) t x t' x') (n := len C) (bad := fun i => !decide ((cl x i 0).toInt = (cl x' i 0).toInt)) (B := fun _ => .row [.int 1, .bool false]) (fun i hi => by
  show JB (.int (i : Nat)) t x t' x' = cond _ (.row [.int 1, .bool false]) (JB (.int (i + 1 : Nat)) t x t' x');rw [WR, h.l, h'.l, ifT (by omega), ifF (by omega), ifT (by omega), AG (by omega)]
  by_cases q : (cl x i 0).toInt = (cl x' i 0).toInt
  ·rw [ifT q, decide_eq_true q];rfl
  ·rw [ifF q, decide_eq_false q];rfl)
 refine (show JB (.int 0) t x t' x' = _ from L).trans ?_
 show cond _ (JB (.int (len C : Nat)) t x t' x') _ = _;by_cases q : fdG (fun i => !decide ((cl x i 0).toInt = (cl x' i 0).toInt)) (len C) 0 < 0
 ·rw [ifT q, WR, h.l, ifF (by omega), decide_eq_true (key.1 ⟨e, fun j hj => by
   have n := Cx (p := fun i => !decide ((cl x i 0).toInt = (cl x' i 0).toInt)) (k := len C) (i := 0) (j := j) (by omega) (.inr ⟨q, by omega⟩)
   simpa using n⟩)]
 ·rw [ifF q, decide_eq_false fun c => by
   have w := (key.2 c).2;have is := Hk (p := fun i => !decide ((cl x i 0).toInt = (cl x' i 0).toInt)) (k := len C) (i := 0) (by omega)
   have lt := D6 (p := fun i => !decide ((cl x i 0).toInt = (cl x' i 0).toInt)) (k := len C) (i := 0)
   have w := w (fdG (fun i => !decide ((cl x i 0).toInt = (cl x' i 0).toInt)) (len C) 0).toNat (by omega)
   rw [decide_eq_true w] at is;cases is]
theorem bw (hR : Rk S C T) (hR' : Rk S' C' T') {ps qs : List PK} {d dm : D} {b b' : Bool} {i : Nat} {q : PK} (hl : ps.length < 100000000) (ho : G1 S C S' C' ps) (hq : POk S C S' C' q) (hr : RP S C S' C' ps d) (hm : RP S C S' C' qs dm) (hi : qs[i]? = some q) (hn : qs.length < 100000000) :
  ∃ d' b1, RP S C S' C' (Bb ps q) d' ∧ FD d (.bool b) dm (.bool b') (.int (i : Nat)) (.bool false) (.int 0) = MU d' (.bool b1) dm (.bool b') (.int (i + 1 : Nat)) := by
 have hil : i < qs.length := by
  rcases Nat.lt_or_ge i qs.length with q | q
  ·exact q
  ·rw [List.getElem?_eq_none q] at hi; cases hi
 have hrl := hr.l;have hml := hm.l;have hqc := hm.c i q hi
 have A := Tc (G := fun f j => FD d (.bool b) dm (.bool b') (.int (i : Nat)) (.bool f) (.int (j : Nat))) (p := fun j => decide (ps[j]? = some q)) (n := ps.length) (b := false) (fun f j hj => by
  show FD d (.bool b) dm (.bool b') (.int (i : Nat)) (.bool f) (.int (j : Nat)) = cond f (FD d (.bool b) dm (.bool b') (.int (i : Nat)) (.bool true) (.int (j + 1 : Nat))) (FD d (.bool b) dm (.bool b') (.int (i : Nat)) (.bool (decide (ps[j]? = some q))) (.int (j + 1 : Nat)));have hg : ps[j]? = some ps[j] := List.getElem?_eq_getElem hj;have hp := ho _ (List.getElem_mem hj);have hpc := hr.c j _ hg;rw [Z0, hrl, ifT (by omega), AG (by omega)]
  congr 1
  rw [ifF (by omega), ifF (by omega), hml, ifT (by omega), NO hR hp.1 hq.1 hpc.1 hqc.1, NO hR' hp.2 hq.2 hpc.2 hqc.2]
  dsimp +instances only [Am, Al, Ac, Af]
  have e : decide (ps[j]? = some q) = (decide (ps[j].1 = q.1) && decide (ps[j].2 = q.2)) := by
   rw [hg, Bool.eq_iff_iff];simp [Prod.ext_iff]
  rw [e, ifT (by rfl)]
  cases decide (ps[j].1 = q.1)
  ·rfl
  ·rw [cond_true, ifT (by rfl), Bool.true_and])
 have A : FD d (.bool b) dm (.bool b') (.int (i : Nat)) (.bool false) (.int 0) = FD d (.bool b) dm (.bool b') (.int (i : Nat)) (.bool (false || !decide (fdG (fun j => decide (ps[j]? = some q)) ps.length 0 < 0))) (.int (ps.length : Nat)) := A
 rw [A, Z0, hrl, ifF (by omega), AG (by omega)]
 by_cases c : q ∈ ps
 ·obtain ⟨j, hj, hjk⟩ := List.getElem_of_mem c;have z := Hi (p := fun i => decide (ps[i]? = some q)) (k := ps.length) (i := 0) (j := j) (by omega) (by omega) (decide_eq_true (by rw [List.getElem?_eq_getElem hj, hjk]))
  have ea : Bb ps q = ps := if_pos c;rw [ea, decide_eq_false (by omega)]
  exact ⟨d, b, hr, rfl⟩
 ·have z : fdG (fun i => decide (ps[i]? = some q)) ps.length 0 = -1 := Cu fun j _ hj => decide_eq_false fun h => c (List.mem_of_getElem? h)
  have ea : Bb ps q = ps ++ [q] := if_neg c;rw [ea, decide_eq_true (by omega)]
  refine ⟨_, false, hr.ad hqc.1 hqc.2, ?_⟩;show cond false _ _ = _;rw [cond_false, ifF (by omega), hml, ifT (by omega), ifT (by omega)]
theorem OL (hR : Rk S C T) (hR' : Rk S' C' T') {qs : List PK} {dm : D} {b' : Bool} (hq : G1 S C S' C' qs) (hm : RP S C S' C' qs dm) (hn : qs.length < 10000) :
  ∀ (rem pre ps : List PK) (d : D) (b : Bool), qs = pre ++ rem → ps.length + rem.length < 100000000 → G1 S C S' C' ps → RP S C S' C' ps d →
  ∃ d' b1, RP S C S' C' (rem.foldl Bb ps) d' ∧ MU d (.bool b) dm (.bool b') (.int (pre.length : Nat)) = .row [.int 1, d', .bool b1]
 | [], pre, ps, d, b => fun e hl ho hr => by
  have : qs.length = pre.length := by rw [e]; simp
  refine ⟨d, b, hr, ?_⟩;rw [Z3, hm.l, ifF (by omega)]
 | q :: rem, pre, ps, d, b => fun e hl ho hr => by
  have hg : qs[pre.length]? = some q := by rw [e]; simp
  have hp : pre.length < qs.length := by rw [e]; simp
  have hqq := hq q (by rw [e]; simp)
  have e' : qs = (pre ++ [q]) ++ rem := by rw [e]; simp
  have epl : (pre ++ [q]).length = pre.length + 1 := by simp
  have al := E8 (ps := ps) (p := q);have hll : (q :: rem).length = rem.length + 1 := rfl;obtain ⟨d1, b1, r1, r2⟩ := bw hR hR' (b := b) (b' := b') (by omega) ho hqq hr hm hg (by omega)
  have ok : G1 S C S' C' (Bb ps q) := Ed (l := [q]) (fun x hx => by rw [List.mem_singleton.1 hx]; exact hqq) ho
  obtain ⟨d2, b2, i1, i2⟩ := OL hR hR' (b' := b') hq hm hn rem (pre ++ [q]) (Bb ps q) d1 b1 e' (by omega) ok r1
  rw [epl] at i2;refine ⟨d2, b2, i1, ?_⟩;rw [Z3, hm.l, ifT (by omega), r2, i2]
theorem WB (hR : Rk S C T) (hR' : Rk S' C' T') {ps qs : List PK} {d dm : D} {b b' : Bool} (hl : ps.length < 50000000) (hn : qs.length < 10000) (ho : G1 S C S' C' ps) (hq : G1 S C S' C' qs) (hr : RP S C S' C' ps d) (hm : RP S C S' C' qs dm) :
  ∃ d' b1, RP S C S' C' (qs.foldl Bb ps) d' ∧ M0 d (.bool b) dm (.bool b') = .row [.int 1, d', .bool b1] := by
 rw [ot];exact OL hR hR' hq hm hn qs [] ps d b rfl (by omega) ho hr
theorem Qc (hR : Rk S C T) (hR' : Rk S' C' T') {p : PK} (hp : POk S C S' C' p) {t x t' x' : D} (hx : Cf S C p.1 t x) (hx' : Cf S' C' p.2 t' x') {s i : Nat} (hs : s < len T ∧ en S C T p.1 s = true) {L M : List Nat} (hM : ∀ m ∈ M, m < len T' ∧ en S' C' T' p.2 m = true) (hi : L[i]? = some s) (hLn : L.length < 1000) (hMn : M.length < 1000) {A B : D} {fa fb fl fm : Bool} :
  ∀ (rem pre : List Nat) (ps : List PK) (d : D) (b : Bool), M = pre ++ rem → ps.length + rem.length < 1000000 → RP S C S' C' ps d →
  ∃ d' b1, RP S C S' C' (ps ++ Fl S C T S' C' T' p s rem) d' ∧ JW d (.bool b) A (.bool fa) B (.bool fb) (AR L) (.bool fl) (AR M) (.bool fm) (.int (i : Nat)) (.int (pre.length : Nat)) v0 S C T v0' S' C' T' t x t' x' = LT d' (.bool b1) A (.bool fa) B (.bool fb) (AR L) (.bool fl) (AR M) (.bool fm) (.int (i + 1 : Nat)) v0 S C T v0' S' C' T' t x t' x'
 | [], pre, ps, d, b => fun e hl hr => by
  have : M.length = pre.length := by rw [e]; simp
  have hil : i < L.length := by
   rcases Nat.lt_or_ge i L.length with q | q
   ·exact q
   ·rw [List.getElem?_eq_none q] at hi; cases hi
  refine ⟨d, b, by unfold Fl; simpa using hr, ?_⟩
  rw [Z2, AN, ifF (by omega), AG (by omega)]
 | m :: rem, pre, ps, d, b => fun e hl hr => by
  have hg := CF e;have hp' : pre.length < M.length := by rw [e]; simp
  have hm := hM m (by rw [e]; simp)
  have e' : M = (pre ++ [m]) ++ rem := by rw [e]; simp
  have epl : (pre ++ [m]).length = pre.length + 1 := by simp
  have hll : (m :: rem).length = rem.length + 1 := rfl;have hrl := hr.l
  have hil : i < L.length := by
   rcases Nat.lt_or_ge i L.length with q | q
   ·exact q
   ·rw [List.getElem?_eq_none q] at hi; cases hi
  obtain ⟨y, y1, y2⟩ := LB (v0 := v0) hR hp.1 hs.1 hs.2 hx;obtain ⟨z, z1, z2⟩ := LB (v0 := v0') hR' hp.2 hm.1 hm.2 hx';rw [Z2, AN, AN, ifT (by omega), ifF (by omega), ifT (by omega), Da hg, Da hi, Ac, Ac, ifF (by omega), ifT (by omega), ifF (by omega), ifF (by omega), ifT (by omega), AG (by omega), y1, z1]
  dsimp +instances only [Am, Al, Ac, Af]
  have skip : alk T s T' m = false → ∃ d' b1, RP S C S' C' (ps ++ Fl S C T S' C' T' p s (m :: rem)) d' ∧ JW d (.bool b) A (.bool fa) B (.bool fb) (AR L) (.bool fl) (AR M) (.bool fm) (.int (i : Nat)) (.int (pre.length + 1 : Nat)) v0 S C T v0' S' C' T' t x t' x' = LT d' (.bool b1) A (.bool fa) B (.bool fb) (AR L) (.bool fl) (AR M) (.bool fm) (.int (i + 1 : Nat)) v0 S C T v0' S' C' T' t x t' x' := fun q => by
   have ih := Qc hR hR' (A := A) (B := B) (fa := fa) (fb := fb) (fl := fl) (fm := fm) hp hx hx' hs hM hi hLn hMn rem (pre ++ [m]) ps d b e' (by omega) hr
   rw [epl] at ih;rw [show Fl S C T S' C' T' p s (m :: rem) = Fl S C T S' C' T' p s rem by unfold Fl; rw [List.filter_cons_of_neg (by simp [q])]]
   exact ih
  have a0 : alk T s T' m = (decide ((cl T s 2).toInt = (cl T' m 2).toInt) && (D.strEq (cl T s 3) (cl T' m 3) && D.strEq (cl T s 4) (cl T' m 4))) := rfl;by_cases q1 : (cl T s 2).toInt = (cl T' m 2).toInt;rotate_left
  ·rw [ifF q1];exact skip (by rw [a0, decide_eq_false q1]; rfl)
  rw [ifT q1];rw [decide_eq_true q1] at a0;cases q2 : D.strEq (cl T s 3) (cl T' m 3)
  ·exact skip (by rw [a0, q2]; rfl)
  cases q3 : D.strEq (cl T s 4) (cl T' m 4)
  ·exact skip (by rw [a0, q2, q3]; rfl)
  rw [cond_true, cond_true, ifT (by rfl), ifT (by rfl), hrl, ifT (by omega)]
  have q : alk T s T' m = true := by rw [a0, q2, q3]; rfl
  have r1 := hr.ad (p := nxP S C T S' C' T' p s m) (y2.ni (b := decide ((len x : Int) = 0))) (z2.ni (b := decide ((len x' : Int) = 0)));obtain ⟨d', b1, i1, i2⟩ := Qc hR hR' (A := A) (B := B) (fa := fa) (fb := fb) (fl := fl) (fm := fm) hp hx hx' hs hM hi hLn hMn rem (pre ++ [m]) (ps ++ [nxP S C T S' C' T' p s m]) _ false e' (by simp; omega) r1
  rw [epl] at i2;refine ⟨d', b1, ?_, i2⟩;rw [show Fl S C T S' C' T' p s (m :: rem) = nxP S C T S' C' T' p s m :: Fl S C T S' C' T' p s rem by unfold Fl; rw [List.filter_cons_of_pos (by simp [q]), List.map_cons]]
  rw [List.append_assoc] at i1;exact i1
theorem RV (hR : Rk S C T) (hR' : Rk S' C' T') {p : PK} (hp : POk S C S' C' p) {t x t' x' : D} (hx : Cf S C p.1 t x) (hx' : Cf S' C' p.2 t' x') {L M : List Nat} (hL : ∀ m ∈ L, m < len T ∧ en S C T p.1 m = true) (hM : ∀ m ∈ M, m < len T' ∧ en S' C' T' p.2 m = true) (hLn : L.length < 1000) (hMn : M.length < 1000) {A B : D} {fa fb fl fm : Bool} :
  ∀ (rem pre : List Nat) (ps : List PK) (d : D) (b : Bool), L = pre ++ rem → ps.length + rem.length * M.length < 1000000 → RP S C S' C' ps d →
  ∃ d' b1, RP S C S' C' (ps ++ crT S C T S' C' T' p rem M) d' ∧ LT d (.bool b) A (.bool fa) B (.bool fb) (AR L) (.bool fl) (AR M) (.bool fm) (.int (pre.length : Nat)) v0 S C T v0' S' C' T' t x t' x' = LT d' (.bool b1) A (.bool fa) B (.bool fb) (AR L) (.bool fl) (AR M) (.bool fm) (.int (L.length : Nat)) v0 S C T v0' S' C' T' t x t' x'
 | [], pre, ps, d, b => fun e hl hr => by
  have : L.length = pre.length := by rw [e]; simp
  rw [this];exact ⟨d, b, by unfold crT; simpa using hr, rfl⟩
 | s :: rem, pre, ps, d, b => fun e hl hr => by
  have hg := CF e;have hp' : pre.length < L.length := by rw [e]; simp
  have hs := hL s (by rw [e]; simp)
  have e' : L = (pre ++ [s]) ++ rem := by rw [e]; simp
  have epl : (pre ++ [s]).length = pre.length + 1 := by simp
  have hll : (s :: rem).length * M.length = rem.length * M.length + M.length := by rw [List.length_cons, Nat.succ_mul]
  have rl := L4 (S := S) (C := C) (T := T) (S' := S') (C' := C') (T' := T') (p := p) (i := s) (M := M);obtain ⟨d1, b1, i1, i2⟩ := Qc (v0 := v0) (v0' := v0') hR hR' (A := A) (B := B) (fa := fa) (fb := fb) (fl := fl) (fm := fm) hp hx hx' hs hM hg hLn hMn M [] ps d b rfl (by omega) hr
  obtain ⟨d2, b2, j1, j2⟩ := RV hR hR' (A := A) (B := B) (fa := fa) (fb := fb) (fl := fl) (fm := fm) hp hx hx' hL hM hLn hMn rem (pre ++ [s]) (ps ++ Fl S C T S' C' T' p s M) d1 b1 e' (by rw [List.length_append]; omega) i1
  rw [epl] at j2;refine ⟨d2, b2, ?_, ?_⟩
  ·rw [List.append_assoc] at j1;unfold crT at j1 ⊢;rw [List.flatMap_cons];exact j1
  ·rw [ZK, AN, ifT (by omega)]
   exact i2.trans j2
theorem N1 (hR : Rk S C T) (hR' : Rk S' C' T') {p : PK} (hp : POk S C S' C' p) {t x t' x' : D} (hx : Cf S C p.1 t x) (hx' : Cf S' C' p.2 t' x') {s i : Nat} (hs : s < len T' ∧ en S' C' T' p.2 s = true) {L M : List Nat} (hL : ∀ m ∈ L, m < len T ∧ en S C T p.1 m = true) (hi : M[i]? = some s) (hLn : L.length < 1000) (hMn : M.length < 1000) {fl fm : Bool} :
  ∀ (rem pre : List Nat) (ps : List PK) (d : D) (b : Bool), L = pre ++ rem → ps.length + rem.length < 1000000 → RP S C S' C' ps d →
  ∃ d' b1, RP S C S' C' (ps ++ FA S C T S' C' T' p s rem) d' ∧ Jh d (.bool b) (AR L) (.bool fl) (AR M) (.bool fm) (.int (i : Nat)) (.int (pre.length : Nat)) v0 S C T v0' S' C' T' t x t' x' = MX d' (.bool b1) (AR L) (.bool fl) (AR M) (.bool fm) (.int (i + 1 : Nat)) v0 S C T v0' S' C' T' t x t' x'
 | [], pre, ps, d, b => fun e hl hr => by
  have : L.length = pre.length := by rw [e]; simp
  have hil : i < M.length := by
   rcases Nat.lt_or_ge i M.length with q | q
   ·exact q
   ·rw [List.getElem?_eq_none q] at hi; cases hi
  refine ⟨d, b, by unfold FA; simpa using hr, ?_⟩
  rw [ZY, AN, ifF (by omega), AG (by omega)]
 | m :: rem, pre, ps, d, b => fun e hl hr => by
  have hg := CF e;have hp' : pre.length < L.length := by rw [e]; simp
  have hm := hL m (by rw [e]; simp)
  have e' : L = (pre ++ [m]) ++ rem := by rw [e]; simp
  have epl : (pre ++ [m]).length = pre.length + 1 := by simp
  have hll : (m :: rem).length = rem.length + 1 := rfl;have hrl := hr.l
  have hil : i < M.length := by
   rcases Nat.lt_or_ge i M.length with q | q
   ·exact q
   ·rw [List.getElem?_eq_none q] at hi; cases hi
  obtain ⟨y, y1, y2⟩ := LB (v0 := v0) hR hp.1 hm.1 hm.2 hx;obtain ⟨z, z1, z2⟩ := LB (v0 := v0') hR' hp.2 hs.1 hs.2 hx';rw [ZY, AN, AN, ifT (by omega), ifF (by omega), Da hg, Da hi, Ac, Ac, ifF (by omega), ifT (by omega), ifF (by omega), ifT (by omega), ifF (by omega), ifT (by omega), AG (by omega), y1, z1]
  dsimp +instances only [Am, Al, Ac, Af]
  have skip : alk T m T' s = false → ∃ d' b1, RP S C S' C' (ps ++ FA S C T S' C' T' p s (m :: rem)) d' ∧ Jh d (.bool b) (AR L) (.bool fl) (AR M) (.bool fm) (.int (i : Nat)) (.int (pre.length + 1 : Nat)) v0 S C T v0' S' C' T' t x t' x' = MX d' (.bool b1) (AR L) (.bool fl) (AR M) (.bool fm) (.int (i + 1 : Nat)) v0 S C T v0' S' C' T' t x t' x' := fun q => by
   have ih := N1 hR hR' (fl := fl) (fm := fm) hp hx hx' hs hL hi hLn hMn rem (pre ++ [m]) ps d b e' (by omega) hr
   rw [epl] at ih;rw [show FA S C T S' C' T' p s (m :: rem) = FA S C T S' C' T' p s rem by unfold FA; rw [List.filter_cons_of_neg (by simp [q])]]
   exact ih
  have a0 : alk T m T' s = (decide ((cl T m 2).toInt = (cl T' s 2).toInt) && (D.strEq (cl T m 3) (cl T' s 3) && D.strEq (cl T m 4) (cl T' s 4))) := rfl;by_cases q1 : (cl T m 2).toInt = (cl T' s 2).toInt;rotate_left
  ·rw [ifF q1];exact skip (by rw [a0, decide_eq_false q1]; rfl)
  rw [ifT q1];rw [decide_eq_true q1] at a0;cases q2 : D.strEq (cl T m 3) (cl T' s 3)
  ·exact skip (by rw [a0, q2]; rfl)
  cases q3 : D.strEq (cl T m 4) (cl T' s 4)
  ·exact skip (by rw [a0, q2, q3]; rfl)
  rw [cond_true, cond_true, ifT (by rfl), ifT (by rfl), hrl, ifT (by omega)]
  have q : alk T m T' s = true := by rw [a0, q2, q3]; rfl
  have r1 := hr.ad (p := nxP S C T S' C' T' p m s) (y2.ni (b := decide ((len x : Int) = 0))) (z2.ni (b := decide ((len x' : Int) = 0)));obtain ⟨d', b1, i1, i2⟩ := N1 hR hR' (fl := fl) (fm := fm) hp hx hx' hs hL hi hLn hMn rem (pre ++ [m]) (ps ++ [nxP S C T S' C' T' p m s]) _ false e' (by simp; omega) r1
  rw [epl] at i2;refine ⟨d', b1, ?_, i2⟩;rw [show FA S C T S' C' T' p s (m :: rem) = nxP S C T S' C' T' p m s :: FA S C T S' C' T' p s rem by unfold FA; rw [List.filter_cons_of_pos (by simp [q]), List.map_cons]]
  rw [List.append_assoc] at i1;exact i1
theorem O9 (hR : Rk S C T) (hR' : Rk S' C' T') {p : PK} (hp : POk S C S' C' p) {t x t' x' : D} (hx : Cf S C p.1 t x) (hx' : Cf S' C' p.2 t' x') {L M : List Nat} (hL : ∀ m ∈ L, m < len T ∧ en S C T p.1 m = true) (hM : ∀ m ∈ M, m < len T' ∧ en S' C' T' p.2 m = true) (hLn : L.length < 1000) (hMn : M.length < 1000) {fl fm : Bool} :
  ∀ (rem pre : List Nat) (ps : List PK) (d : D) (b : Bool), M = pre ++ rem → ps.length + rem.length * L.length < 1000000 → RP S C S' C' ps d →
  ∃ d' b1, RP S C S' C' (ps ++ crF S C T S' C' T' p L rem) d' ∧ MX d (.bool b) (AR L) (.bool fl) (AR M) (.bool fm) (.int (pre.length : Nat)) v0 S C T v0' S' C' T' t x t' x' = .row [.int 1, d', .bool b1]
 | [], pre, ps, d, b => fun e hl hr => by
  have : M.length = pre.length := by rw [e]; simp
  refine ⟨d, b, by unfold crF; simpa using hr, ?_⟩
  rw [ag, AN, ifF (by omega)]
 | s :: rem, pre, ps, d, b => fun e hl hr => by
  have hg := CF e;have hp' : pre.length < M.length := by rw [e]; simp
  have hs := hM s (by rw [e]; simp)
  have e' : M = (pre ++ [s]) ++ rem := by rw [e]; simp
  have epl : (pre ++ [s]).length = pre.length + 1 := by simp
  have hll : (s :: rem).length * L.length = rem.length * L.length + L.length := by rw [List.length_cons, Nat.succ_mul]
  have rl := Lw (S := S) (C := C) (T := T) (S' := S') (C' := C') (T' := T') (p := p) (i := s) (M := L);obtain ⟨d1, b1, i1, i2⟩ := N1 (v0 := v0) (v0' := v0') hR hR' (fl := fl) (fm := fm) hp hx hx' hs hL hg hLn hMn L [] ps d b rfl (by omega) hr
  obtain ⟨d2, b2, j1, j2⟩ := O9 hR hR' (fl := fl) (fm := fm) hp hx hx' hL hM hLn hMn rem (pre ++ [s]) (ps ++ FA S C T S' C' T' p s L) d1 b1 e' (by rw [List.length_append]; omega) i1
  rw [epl] at j2;refine ⟨d2, b2, ?_, ?_⟩
  ·rw [List.append_assoc] at j1;unfold crF at j1 ⊢;rw [List.flatMap_cons];exact j1
  ·rw [ag, AN, ifT (by omega)]
   exact i2.trans j2
theorem aY (hR : Rk S C T) (hR' : Rk S' C' T') {p : PK} (hp : POk S C S' C' p) {t x t' x' : D} (hx : Cf S C p.1 t x) (hx' : Cf S' C' p.2 t' x') :
  ∃ d' b1, RP S C S' C' (bhd S C T S' C' T' p) d' ∧ UJ v0 S C T v0' S' C' T' t x t' x' = .row [.int 1, d', .bool b1] := by
 have ht := hR.t1;have ht' := hR'.t1;have l1 := Dx (S := S) (C := C) (T := T) (k := p.1);have l2 := Dx (S := S') (C := C') (T := T') (k := p.2);have x1 := Be hR (k := p.1) (r := true);have x2 := Be hR' (k := p.2) (r := true);have x3 := Be hR (k := p.1) (r := false);have x4 := Be hR' (k := p.2) (r := false);have y1 : (prt T (enl S C T p.1) true).length * (prt T' (enl S' C' T' p.2) true).length ≤ 20 * 20 := Nat.mul_le_mul x1 x2;have y2 : (prt T' (enl S' C' T' p.2) false).length * (prt T (enl S C T p.1) false).length ≤ 20 * 20 := Nat.mul_le_mul x4 x3;have cl1 := Kl (S := S) (C := C) (T := T) (S' := S') (C' := C') (T' := T') (p := p) x2 (L := prt T (enl S C T p.1) true);obtain ⟨d1, b1, i1, i2⟩ := RV (v0 := v0) (v0' := v0') hR hR' hp hx hx' (L := prt T (enl S C T p.1) true) (M := prt T' (enl S' C' T' p.2) true) DM DM (by omega) (by omega) (A := AR (enl S C T p.1)) (B := AR (enl S' C' T' p.2)) (fa := (enl S C T p.1).isEmpty) (fb := (enl S' C' T' p.2).isEmpty) (fl := (prt T (enl S C T p.1) true).isEmpty) (fm := (prt T' (enl S' C' T' p.2) true).isEmpty) (prt T (enl S C T p.1) true) [] [] AB true rfl (by simp; omega) (RH rfl)
 rw [List.nil_append] at i1;obtain ⟨d2, b2, j1, j2⟩ := O9 (v0 := v0) (v0' := v0') hR hR' hp hx hx' (L := prt T (enl S C T p.1) false) (M := prt T' (enl S' C' T' p.2) false) DM DM (by omega) (by omega) (fl := (prt T (enl S C T p.1) false).isEmpty) (fm := (prt T' (enl S' C' T' p.2) false).isEmpty) (prt T' (enl S' C' T' p.2) false) [] (crT S C T S' C' T' p (prt T (enl S C T p.1) true) (prt T' (enl S' C' T' p.2) true)) d1 b1 rfl (by omega) i1
 refine ⟨d2, b2, j1, ?_⟩;rw [iP, Lh hR hp.1 hx, Lh hR' hp.2 hx'];dsimp +instances only [Am, Al, Ac, Af];rw [ifT (by rfl), ifT (by rfl), F6 (T := T) (r := true) D5 (by omega), F6 (T := T') (r := true) D5 (by omega)]
 dsimp +instances only [Am, Al, Ac, Af];rw [ifT (by rfl), ifT (by rfl)]
 refine i2.trans ?_;rw [ZK, AN, ifF (by omega), F6 (T := T) (r := false) D5 (by omega), F6 (T := T') (r := false) D5 (by omega)]
 dsimp +instances only [Am, Al, Ac, Af];rw [ifT (by rfl), ifT (by rfl)]
 exact j2
def bF (S C S' C' T T' : D) (d : D) : Option PK × List PK → Prop
 | (none, ps) => d = cond (decide (4000 < (ps.length : Int))) (.row [.int 1, .int 7]) (.row [.int 1, .int 0])
 | (some p, ps) => ∃ t x t' x', Cf S C p.1 t x ∧ Cf S' C' p.2 t' x' ∧ d = .row [.int 2, t, x, t', x', .int ((flt S C T S' C' T' p).1 : Nat), .int ((flt S C T S' C' T' p).2 : Nat)]
theorem OG (hR : Rk S C T) (hR' : Rk S' C' T') : ∀ {f i : Nat} {ps : List PK} {d : D} {b : Bool}, i + f = 4000 → ps.length ≤ 10000 + 800 * i → G1 S C S' C' ps → RP S C S' C' ps d →
  bF S C S' C' T T' (Pd d (.bool b) (.int (i : Nat)) v0 S C T v0' S' C' T') (srP S C T S' C' T' f ps i)
 | 0, i, ps, d, b => fun h hl ho hr => by
  show _ = _;rw [VY (h0 := rfl) (h1 := rfl), hr.l];by_cases c : i < ps.length
  ·rw [ifT (by omega), ifF (by omega)]
  ·rw [ifF (by omega)]
 | f + 1, i, ps, d, b => fun h hl ho hr => by
  rw [srP];by_cases c : i < ps.length
  ·have hg : ps[i]? = some ps[i] := List.getElem?_eq_getElem c;have hp := ho _ (List.getElem_mem c);have hb := RX hR hR' (p := ps[i]);have al := CQ (l := bhd S C T S' C' T' ps[i]) (ps := ps);have hc := hr.c i _ hg;obtain ⟨d1, b1, g1, g2⟩ := aY (v0 := v0) (v0' := v0') hR hR' hp hc.1 hc.2;have F := bW (v0 := v0) (v0' := v0') hR hR' hp.1 hp.2 hc.1 hc.2;rw [hg];show bF S C S' C' T T' _ (if (flt S C T S' C' T' ps[i]).1 = 0 then srP S C T S' C' T' f ((bhd S C T S' C' T' ps[i]).foldl Bb ps) (i + 1) else (some ps[i], ps))
   rw [VY (h0 := g2) (h1 := F), hr.l, ifT (by omega), ifT (by omega), ifF (by omega)]
   dsimp +instances only [Am, Al, Ac, Af];rw [ifT (by rfl)]
   by_cases q : (flt S C T S' C' T' ps[i]).1 = 0
   ·obtain ⟨d2, b2, k1, k2⟩ := WB hR hR' (b := b) (b' := b1) (by omega) (by omega) ho (QN hR hR' hp) hr g1
    rw [if_pos q, ifT (by omega), ifT (by rfl), k2]
    dsimp +instances only [Am, Al, Ac, Af];rw [ifT (by rfl), AG (by omega)]
    exact OG hR hR' (by omega) (by omega) (Ed (QN hR hR' hp) ho) k1
   ·rw [if_neg q, ifF (by omega)]
    exact ⟨_, _, _, _, hc.1, hc.2, rfl⟩
  ·rw [List.getElem?_eq_none (by omega)]
   show _ = _;rw [VY (h0 := rfl) (h1 := rfl), hr.l, ifF (by omega)]
end
end Cs
namespace Cs
open Go Go.AE
structure Ck (S C S' C' P Q : D) : Prop where
 np : len P ≤ 30
 nq : len Q ≤ 8
 q : Ej Q
 tp : ∀ i, i < len P → Di P i = false
 tq : ∀ i, i < len Q → Di Q i = false
 sp : ∀ i, i < len P → 0 ≤ fd S' (cl P i 1)
 cq : ∀ i, i < len Q → 0 ≤ pl C' Q i
theorem aH [Ar] {v0 S C T v0' S' C' T' P Q : D} {a : Int} (hp : len P ≤ 30) (hq : len Q ≤ 8) (hQ : Ej Q) (h : chk v0 S C T v0' S' C' T' P Q = .row [.int 1, .int a, .int 0]) : rok v0 S C T = true ∧ rok v0' S' C' T' = true ∧ Ck S C S' C' P Q := by
 unfold chk at h;cases r1 : rok v0 S C T
 ·rw [r1] at h; cases h
 cases r2 : rok v0' S' C' T'
 ·rw [r1, r2] at h; cases h
 rw [r1, r2, cond_true, cond_true] at h;by_cases c1 : 24 < (len P : Int)
 ·rw [ifT c1] at h; cases h
 rw [ifF c1] at h;by_cases c2 : fdG (GY S S' P) (len P) 0 < 0;rotate_left
 ·rw [ifF c2] at h; cases h
 rw [ifT c2] at h;by_cases c3 : 4 < (len Q : Int)
 ·rw [ifT c3] at h; cases h
 rw [ifF c3] at h;by_cases c4 : fdG (GX C C' Q) (len Q) 0 < 0;rotate_left
 ·rw [ifF c4] at h; cases h
 have hP : ∀ i, i < len P → GY S S' P i = false := fun i hi => Cx (p := GY S S' P) (k := len P) (i := 0) (j := i) (by omega) (.inr ⟨c2, by omega⟩)
 have hQ' : ∀ i, i < len Q → GX C C' Q i = false := fun i hi => Cx (p := GX C C' Q) (k := len Q) (i := 0) (j := i) (by omega) (.inr ⟨c4, by omega⟩)
 refine ⟨rfl, rfl, hp, hq, hQ, fun i hi => ?_, fun i hi => ?_, fun i hi => ?_, fun i hi => ?_⟩
 ·have := hP i hi;unfold GY at this;simp only [Bool.or_eq_false_iff] at this;exact this.2.2
 ·have := hQ' i hi;unfold GX at this;simp only [Bool.or_eq_false_iff] at this;exact this.2.2.1
 ·have := hP i hi;unfold GY at this;simp only [Bool.or_eq_false_iff, decide_eq_false_iff_not] at this;omega
 ·have := hQ' i hi;unfold GX at this;simp only [Bool.or_eq_false_iff, decide_eq_false_iff_not] at this;show 0 ≤ fd C' (cl Q i 0);omega
theorem WY {C Q x y : D} (h : ∀ j, kv x j = kv y j) {i : Nat} : pv C Q x i = pv C Q y i := by unfold pv; rw [h]
theorem PC {C C' Q x y : D} (h : ∀ j, kv x j = kv y j) {j : Nat} : ∀ {i : Nat}, vs C C' Q x j i = vs C C' Q y j i
 | 0 => rfl
 | i + 1 => by rw [Fh, Fh, WY h, PC h]
theorem Wa {C C' Q x y : D} (h : ∀ j, kv x j = kv y j) {i : Nat} : LV C C' Q x i = LV C C' Q y i := by unfold LV; simp only [PC h]
def xk (C : D) (k : Key) : D := EH (kc k) (len C)
theorem O6 {S C : D} {k : Key} (hk : KOk S C k) (j : Nat) : kv (xk C k) j = kc k j := by
 unfold kv xk;rw [KF];by_cases c : j < len C
 ·rw [if_pos c, H9 c];rfl
 ·rw [if_neg c, hk.v1 j (by omega)]
theorem ol {S C : D} {k : Key} {t x : D} (hk : KOk S C k) (hx : Cf S C k t x) (j : Nat) : kv x j = kc k j := by
 unfold kv;rw [hx.l];by_cases c : j < len C
 ·rw [if_pos c, hx.v j c]
 ·rw [if_neg c, hk.v1 j (by omega)]
def cvK (S C S' C' P Q : D) (k : Key) : Option Key :=
 if fd P (cl S k.1 0) < 0 then none
 else if fdG (Hh C C' Q (xk C k)) (len Q) 0 < 0 then some (fd S' (cl P (fd P (cl S k.1 0)) 1), vs C C' Q (xk C k) 0 (len Q), vs C C' Q (xk C k) 1 (len Q), vs C C' Q (xk C k) 2 (len Q), vs C C' Q (xk C k) 3 (len Q))
 else none
def cvE (S C S' C' P Q : D) (k : Key) : Int := if fd P (cl S k.1 0) < 0 then 9 else 3
def cvD (S C S' C' P Q : D) (k : Key) : D := match cvK S C S' C' P Q k with
 | some n => .row [.int 1, (.int n.1), (.int n.2.1), (.int n.2.2.1), (.int n.2.2.2.1), (.int n.2.2.2.2), .int 0]
 | none => .row [.int 1, .int 0, .int 0, .int 0, .int 0, .int 0, .int (cvE S C S' C' P Q k)]
theorem Vx [Ar] {S C T S' C' T' P Q : D} (hR : Rk S C T) (hR' : Rk S' C' T') (hC : Ck S C S' C' P Q) {k n : Key} (h : cvK S C S' C' P Q k = some n) : KOk S' C' n := by
 have hc' := hR'.c1;unfold cvK at h;by_cases a : fd P (cl S k.1 0) < 0
 ·rw [if_pos a] at h; cases h
 rw [if_neg a] at h;by_cases b : fdG (Hh C C' Q (xk C k)) (len Q) 0 < 0;rotate_left
 ·rw [if_neg b] at h; cases h
 rw [if_pos b] at h;have lt := BL (l := P) (key := cl S k.1 0);have sp := hC.sp (fd P (cl S k.1 0)).toNat (by omega)
 rw [show (((fd P (cl S k.1 0)).toNat : Nat) : Int) = fd P (cl S k.1 0) by omega] at sp
 have lt' := BL (l := S') (key := cl P (fd P (cl S k.1 0)) 1)
 have nv : ∀ j, vs C C' Q (xk C k) j (len Q) = 0 ∨ (j < len C' ∧ 0 ≤ vs C C' Q (xk C k) j (len Q) ∧ vs C C' Q (xk C k) j (len Q) ≤ (cl C' j 1).toInt) := fun j => by
  rcases ZC (v2 := C) (v6 := C') (v9 := Q) (v11 := xk C k) (j := j) (i := len Q) with e | ⟨i, h1, h2, h3⟩
  ·exact .inl e
  ·right;have l1 : pl C' Q i < len C' := BL;have no := Cx (p := Hh C C' Q (xk C k)) (k := len Q) (i := 0) (j := i) (by omega) (.inr ⟨b, by omega⟩)
   unfold Hh at no;simp only [Bool.or_eq_false_iff, decide_eq_false_iff_not] at no;rw [h2] at no;rw [h3];omega
 have kn : ∀ j, j < 4 → kc n j = vs C C' Q (xk C k) j (len Q) := fun j hj => by
  cases h
  match j with
  | 0 => rfl
  | 1 => rfl
  | 2 => rfl
  | 3 => rfl
  | j + 4 => omega
 have n1 : n.1 = fd S' (cl P (fd P (cl S k.1 0)) 1) := by cases h; rfl
 refine ⟨by omega, by omega, fun j hj => ?_, fun j hj => ?_⟩
 ·rw [kn j (by omega)]
  have l := hR'.lim j hj;rcases nv j with e | e <;> omega
 ·by_cases c : j < 4
  ·rw [kn j c];rcases nv j with e | e
   ·exact e
   ·omega
  ·exact W8 (by omega)
section
variable [Ar]
variable {v0 S C T v0' S' C' T' P Q : D}
theorem mF (hR : Rk S C T) (hR' : Rk S' C' T') (hC : Ck S C S' C' P Q) {k : Key} (hk : KOk S C k) :
  OY v0 S C T v0' S' C' T' P Q (.int k.1) (.int k.2.1) (.int k.2.2.1) (.int k.2.2.2.1) (.int k.2.2.2.2) = cvD S C S' C' P Q k := by
 have hc := hR.c1;have hc' := hR'.c1;have s0 := hk.s0;have s1 := hk.s1;have s1' := hR'.s1;have np := hC.np;have nq := hC.nq;have F := dI (v0 := v0) (v1 := S) (v2 := C) (v3 := T) (v4 := v0') (v5 := S') (v6 := C') (v7 := T') (v8 := P) (v9 := Q) (v11 := xk C k) (st := k.1.toNat) hC.q (by omega) (by omega) (by omega) hc hc' (by omega) hC.cq
 rw [show ((k.1.toNat : Nat) : Int) = k.1 by omega, O6 hk, O6 hk, O6 hk, O6 hk] at F
 refine F.trans ?_;unfold cvD cvK cvE;by_cases a : fd P (cl S k.1 0) < 0
 ·rw [ifT a, if_pos a, if_pos a]
 rw [ifF a, if_neg a, if_neg a];by_cases b : fdG (Hh C C' Q (xk C k)) (len Q) 0 < 0
 ·rw [ifT b, if_pos b]
 ·rw [ifF b, if_neg b]
theorem i7 (hR : Rk S C T) (hR' : Rk S' C' T') (hC : Ck S C S' C' P Q) {k : Key} (hk : KOk S C k) {t x : D} (hx : Cf S C k t x) :
  match cvK S C S' C' P Q k with
   | some n => ∃ t' x', Cf S' C' n t' x' ∧ M1 v0' S' C' T' v0 S C T P Q t x = .row [.int 1, t', x', .bool false, .int 0]
   | none => M1 v0' S' C' T' v0 S C T P Q t x = .row [.int 1, Bs 0 0, AB, .bool true, .int (cvE S C S' C' P Q k)] := by
 have hc := hR.c1;have hc' := hR'.c1;have s1' := hR'.s1;have np := hC.np;have nq := hC.nq;have hl := hx.l;have F := dK (v0 := v0) (v1 := S) (v2 := C) (v3 := T) (v4 := v0') (v5 := S') (v6 := C') (v7 := T') (v8 := P) (v9 := Q) (v10 := t) (v11 := x) hC.q (by omega) (by omega) (by omega) (by omega) (by omega) hl hC.tp hC.cq
 have kk : ∀ j, kv x j = kv (xk C k) j := fun j => by rw [ol hk hx, O6 hk]
 have et : fd P t = fd P (cl S k.1 0) := by
  unfold fd;refine CW fun j _ _ => ?_
  show D.strEq (cl P j 0) t = D.strEq (cl P j 0) (cl S k.1 0);rw [AJ (b := cl S k.1 0), Cq hx.t, AJ]
 rw [et, Wa kk] at F;unfold cvK;unfold cvE;by_cases a : fd P (cl S k.1 0) < 0
 ·rw [ifT a] at F;rw [if_pos a, if_pos a];exact F
 rw [if_neg a];rw [ifF a] at F;rw [if_neg a];have lt := BL (l := P) (key := cl S k.1 0);have sp := hC.sp (fd P (cl S k.1 0)).toNat (by omega)
 rw [show (((fd P (cl S k.1 0)).toNat : Nat) : Int) = fd P (cl S k.1 0) by omega] at sp
 rw [RC (v5 := S') (v2 := C) (v6 := C') (v9 := Q) (v11 := xk C k) hC.tq hC.cq (fun j hj => by have := hR'.lim j hj; omega) sp] at F
 by_cases b : fdG (Hh C C' Q (xk C k)) (len Q) 0 < 0
 ·rw [ifT b] at F;rw [if_pos b];refine ⟨_, _, ⟨Ln sp, Qw, fun j hj => ?_, ?_⟩, F⟩
  ·rw [WK hj]
   match j with
   | 0 => rfl
   | 1 => rfl
   | 2 => rfl
   | 3 => rfl
   | j + 4 => omega
  ·intro r hr;unfold LV at hr;simp only [D.rows, List.mem_map] at hr;obtain ⟨s, _, e⟩ := hr;subst e;exact ⟨_, rfl, rfl⟩
 ·rw [ifF b] at F;rw [if_neg b];exact F
def cY (S C S' C' P Q : D) (k : Key) : Option PK := (cvK S C S' C' P Q k).map fun n => (k, n)
def I2 (S C S' C' P Q : D) (ks : List Key) : List PK := ks.filterMap (cY S C S' C' P Q)
omit [Ar] in
theorem MQ {k : Key} {ks : List Key} : I2 S C S' C' P Q (k :: ks) = match cvK S C S' C' P Q k with | some n => (k, n) :: I2 S C S' C' P Q ks | none => I2 S C S' C' P Q ks := by
 unfold I2;rw [List.filterMap_cons];unfold cY;cases cvK S C S' C' P Q k <;> rfl
omit [Ar] in
theorem Pw {ks : List Key} : (I2 S C S' C' P Q ks).length ≤ ks.length := List.length_filterMap_le _ _
theorem R6 (hR : Rk S C T) (hR' : Rk S' C' T') (hC : Ck S C S' C' P Q) {ks : List Key} (h : DQ S C ks) : G1 S C S' C' (I2 S C S' C' P Q ks) := by
 intro p hp;obtain ⟨k, hk, e⟩ := List.mem_filterMap.1 hp;unfold cY at e;cases c : cvK S C S' C' P Q k with
 | none => rw [c] at e; cases e
 | some n =>
  rw [c] at e;cases e;exact ⟨h k hk, Vx hR hR' hC c⟩
theorem La (hR : Rk S C T) (hR' : Rk S' C' T') (hC : Ck S C S' C' P Q) {ks : List Key} (hk : DQ S C ks) (hn : ks.length < 10000) {fl : Bool} : ∀ (rem pre : List Key) (ps : List PK), ks = pre ++ rem → ps.length ≤ pre.length →
  KM (AO ps) (.bool ps.isEmpty) (Bn ks) (.bool fl) (.int (ks.length : Nat)) (.int (pre.length : Nat)) v0 S C T v0' S' C' T' P Q = KM (AO (ps ++ I2 S C S' C' P Q rem)) (.bool (ps ++ I2 S C S' C' P Q rem).isEmpty) (Bn ks) (.bool fl) (.int (ks.length : Nat)) (.int (ks.length : Nat)) v0 S C T v0' S' C' T' P Q
 | [], pre, ps => fun e hl => by
  have : ks.length = pre.length := by rw [e]; simp
  rw [this, show ps ++ I2 S C S' C' P Q [] = ps from List.append_nil _]
 | k :: rem, pre, ps => fun e hl => by
  have hg : ks[pre.length]? = some k := by rw [e]; simp
  have hp : pre.length < ks.length := by rw [e]; simp
  have hkk := hk k (by rw [e]; simp)
  have e' : ks = (pre ++ [k]) ++ rem := by rw [e]; simp
  have epl : (pre ++ [k]).length = pre.length + 1 := by simp
  have F1 : OY v0 S C T v0' S' C' T' P Q (cl (Bn ks) (pre.length : Nat) 0) (cl (Bn ks) (pre.length : Nat) 1) (cl (Bn ks) (pre.length : Nat) 2) (cl (Bn ks) (pre.length : Nat) 3) (cl (Bn ks) (pre.length : Nat) 4) = cvD S C S' C' P Q k := by
   rw [Bq hg, Bq hg, Bq hg, Bq hg, Bq hg];exact mF hR hR' hC hkk
  rw [WD (h0 := rfl) (h1 := F1), ifT (by omega), ifF (by omega), E6, ifT (by omega), AG (by omega), Bq hg, Bq hg, Bq hg, Bq hg, Bq hg, MQ]
  unfold cvD;cases c : cvK S C S' C' P Q k with
  | none =>
   have ih := La (fl := fl) hR hR' hC hk hn rem (pre ++ [k]) ps e' (by omega)
   rw [epl] at ih;dsimp +instances only [Am, Al, Ac, Af];rw [ifT (by rfl), ifF (by unfold cvE; split <;> omega)]
   exact ih
  | some n =>
   have ih := La (fl := fl) hR hR' hC hk hn rem (pre ++ [k]) (ps ++ [(k, n)]) e' (by simp; omega)
   rw [epl, show (ps ++ [(k, n)]).isEmpty = false by simp, List.append_assoc] at ih
   dsimp +instances only [Am, Al, Ac, Af];rw [ifT (by rfl), ifT (by rfl), CY, ifT (by omega)]
   have ea : ad (AO ps) (.row (Dh (k, n))) = AO (ps ++ [(k, n)]) := Vs;refine Eq.trans ?_ ih;rw [← ea];rfl
theorem IN (hR : Rk S C T) (hR' : Rk S' C' T') (hC : Ck S C S' C' P Q) {ks : List Key} {dk : D} {fl : Bool} (hk : DQ S C ks) (hd : RL S C ks dk) (hn : ks.length < 10000) : ∀ (rem pre : List Key) (ps : List PK) (d : D) (b : Bool), ks = pre ++ rem → ps.length ≤ pre.length → G1 S C S' C' ps → RP S C S' C' ps d →
  ∃ d' b', RP S C S' C' ((I2 S C S' C' P Q rem).foldl Bb ps) d' ∧ Mw dk (.bool fl) d (.bool b) (.int (pre.length : Nat)) v0 S C T v0' S' C' T' P Q = Pd d' (.bool b') (.int 0) v0 S C T v0' S' C' T'
 | [], pre, ps, d, b => fun e hl ho hr => by
  have : ks.length = pre.length := by rw [e]; simp
  refine ⟨d, b, hr, ?_⟩;rw [WM (h0 := rfl) (h1 := rfl), hd.l, ifF (by omega)]
 | k :: rem, pre, ps, d, b => fun e hl ho hr => by
  have hg : ks[pre.length]? = some k := by rw [e]; simp
  have hp : pre.length < ks.length := by rw [e]; simp
  have hkk := hk k (by rw [e]; simp)
  have e' : ks = (pre ++ [k]) ++ rem := by rw [e]; simp
  have epl : (pre ++ [k]).length = pre.length + 1 := by simp
  have X := i7 (v0 := v0) (v0' := v0') hR hR' hC hkk (hd.c _ _ hg);have ok : ∀ n, cvK S C S' C' P Q k = some n → KOk S' C' n := fun n => Vx hR hR' hC
  rw [MQ];cases c : cvK S C S' C' P Q k with
  | none =>
   rw [c] at X;have X : M1 v0' S' C' T' v0 S C T P Q (cl dk (pre.length : Nat) 0) (cl dk (pre.length : Nat) 1) = _ := X;obtain ⟨d', b', i1, i2⟩ := IN (fl := fl) hR hR' hC hk hd hn rem (pre ++ [k]) ps d b e' (by omega) ho hr
   rw [epl] at i2;refine ⟨d', b', i1, ?_⟩;rw [WM (h0 := X) (h1 := rfl), hd.l, ifT (by omega), ifF (by omega)]
   dsimp +instances only [Am, Al, Ac, Af];rw [ifT (by rfl), ifF (by unfold cvE; split <;> omega), AG (by omega)]
   exact i2
  | some n =>
   rw [c] at X;obtain ⟨t', x', X1, X2⟩ := X;have R1 : RP S C S' C' [(k, n)] (ad Aw (.row [cl dk (pre.length : Nat) 0, cl dk (pre.length : Nat) 1, t', ni x' false])) := (RH (d := Aw) rfl).ad (p := (k, n)) (hd.c _ _ hg) X1.ni;have o1 : G1 S C S' C' [(k, n)] := fun x hx => by rw [List.mem_singleton.1 hx]; exact ⟨hkk, ok n c⟩
   obtain ⟨d1, b1, g1, g2⟩ := WB hR hR' (b := b) (b' := false) (by omega) (by simp) ho o1 hr R1
   have al := E8 (ps := ps) (p := (k, n));obtain ⟨d', b', i1, i2⟩ := IN (fl := fl) hR hR' hC hk hd hn rem (pre ++ [k]) (Bb ps (k, n)) d1 b1 e' (by omega) (Ed (l := [(k, n)]) o1 ho) g1
   rw [epl] at i2;refine ⟨d', b', i1, ?_⟩;rw [WM (h0 := X2) (h1 := g2), hd.l, ifT (by omega), ifF (by omega)]
   dsimp +instances only [Am, Al, Ac, Af];rw [ifT (by rfl), ifT (by rfl), ifT (by rfl), AG (by omega)]
   exact i2
def res (S C T S' C' T' P Q : D) : Option PK × List PK := srP S C T S' C' T' 4000 ((I2 S C S' C' P Q (DW S C T)).foldl Bb []) 0
theorem Vc (hR : Rk S C T) (hR' : Rk S' C' T') (hC : Ck S C S' C' P Q) :
  (2000 < (DW S C T).length ∧ SH v0 S C T v0' S' C' T' P Q = .row [.int 1, .int 7]) ∨ ((DW S C T).length ≤ 2000 ∧ bF S C S' C' T T' (SH v0 S C T v0' S' C' T' P Q) (res S C T S' C' T' P Q)) := by
 have ok : DQ S C (DW S C T) := Ou hR fun k hk => by rw [List.mem_singleton.1 hk]; exact J9 hR
 rcases aU (v0 := v0) hR with ⟨g, w⟩ | ⟨g, d, b, hd, w⟩
 ·refine .inl ⟨g, ?_⟩;rw [Zx, w];rfl
 ·refine .inr ⟨g, ?_⟩;rw [Zx, w];dsimp +instances only [Am, Al, Ac, Af];rw [ifT (by rfl), cond_true]
  obtain ⟨d', b', i1, i2⟩ := IN (v0 := v0) (v0' := v0') (fl := b) hR hR' hC ok hd (by omega) (DW S C T) [] [] AB true rfl (Nat.le_refl _) (fun x hx => by cases hx) (RH rfl)
  rw [show Mw d (.bool b) AB (.bool true) (.int 0) v0 S C T v0' S' C' T' P Q = _ from i2]
  have fl := Pw (S := S) (C := C) (S' := S') (C' := C') (P := P) (Q := Q) (ks := DW S C T);have al := CQ (l := I2 S C S' C' P Q (DW S C T)) (ps := []);simp only [List.length_nil, Nat.zero_add] at al;exact OG hR hR' (i := 0) (by omega) (by omega) (Ed (R6 hR hR' hC ok) fun x hx => by cases hx) i1
theorem dE (hR : Rk S C T) (hR' : Rk S' C' T') (hC : Ck S C S' C' P Q) {a : Int} (h : NC v0 S C T v0' S' C' T' P Q = .row [.int 1, .int a, .int 0]) :
  (2000 < (DW S C T).length ∧ Nx v0 S C T v0' S' C' T' P Q = .row [.int 1, Bs 0 0, AB, .bool true, Bs 0 0, AB, .bool true, .int 0, .int 0, .bool false, .int 7]) ∨
  ((DW S C T).length ≤ 2000 ∧ match res S C T S' C' T' P Q with
   | (none, ps) => Nx v0 S C T v0' S' C' T' P Q = cond (decide (4000 < (ps.length : Int))) (.row [.int 1, Bs 0 0, AB, .bool true, Bs 0 0, AB, .bool true, .int 0, .int 0, .bool false, .int 7]) (.row [.int 1, Bs 0 0, AB, .bool true, Bs 0 0, AB, .bool true, .int 0, .int 0, .bool true, .int 0])
   | (some p, ps) => ∃ x x', POk S C S' C' p ∧ Cf S C p.1 (cl S p.1.1 0) x ∧ Cf S' C' p.2 (cl S' p.2.1 0) x' ∧ (flt S C T S' C' T' p).1 ≠ 0 ∧
     Nx v0 S C T v0' S' C' T' P Q = .row [.int 1, cl S p.1.1 0, x, .bool false, cl S' p.2.1 0, x', .bool false, .int ((flt S C T S' C' T' p).1 : Nat), .int ((flt S C T S' C' T' p).2 : Nat), .bool false, .int 0]) := by
 have ok : DQ S C (DW S C T) := Ou hR fun k hk => by rw [List.mem_singleton.1 hk]; exact J9 hR
 have W := cr (v0 := v0) hR;rw [ZU (h0 := W), h];dsimp +instances only [Am, Al, Ac, Af];rw [ifT (by rfl), ifT (by rfl), ifT (by rfl)]
 by_cases g : 2000 < (DW S C T).length
 ·exact .inl ⟨g, ifT (by omega)⟩
 ·refine .inr ⟨by omega, ?_⟩
  have L := La (v0 := v0) (v0' := v0') (fl := (DW S C T).isEmpty) hR hR' hC ok (by omega) (DW S C T) [] [] rfl (Nat.le_refl _)
  rw [List.nil_append] at L;have fl := Pw (S := S) (C := C) (S' := S') (C' := C') (P := P) (Q := Q) (ks := DW S C T);have O := dU (v0 := v0) (v0' := v0') (w8 := Bs 0 0) (w9 := AB) (w11 := Bs 0 0) (w12 := AB) (b10 := true) (b13 := true) (i14 := 0) (i15 := 0) hR hR' (b := (I2 S C S' C' P Q (DW S C T)).isEmpty) (by omega) (R6 hR hR' hC ok)
  rw [ifF (by omega), E6, show KM AB (.bool true) (Bn (DW S C T)) (.bool (DW S C T).isEmpty) (.int ((DW S C T).length : Nat)) (.int 0) v0 S C T v0' S' C' T' P Q = _ from L]
  show match res S C T S' C' T' P Q with
   | (none, ps) => _
   | (some p, ps) => _
  have O : YB S C S' C' T T' v0 v0' (Bs 0 0) AB (.bool true) (Bs 0 0) AB (.bool true) (.int 0) (.int 0) _ (res S C T S' C' T' P Q) := O;cases c : res S C T S' C' T' P Q with
  | mk a ps =>
   rw [c] at O;cases a with
   | none =>
    have O : _ = _ := O;show _ = _;rw [WD (h0 := O) (h1 := rfl), ifF (by omega)]
    dsimp +instances only [Am, Al, Ac, Af];rw [ifT (by rfl)]
    cases decide (4000 < (ps.length : Int)) <;> rfl
   | some p =>
    obtain ⟨x, x', o1, o2, o3, o4, O⟩ := O;refine ⟨x, x', o1, o2, o3, o4, ?_⟩;rw [WD (h0 := O) (h1 := rfl), ifF (by omega)]
    dsimp +instances only [Am, Al, Ac, Af];rw [ifT (by rfl), cond_false, decide_eq_false (by omega)]
end
end Cs
namespace Cs
open Go Go.AE
section
variable [Ar]
variable {v0 S C T v0' S' C' T' P Q : D}
theorem Y8 : ∃ a e : Int, chk v0 S C T v0' S' C' T' P Q = .row [.int 1, .int a, .int e] := by
 unfold chk;cases rok v0 S C T
 ·exact ⟨_, _, rfl⟩
 cases rok v0' S' C' T'
 ·exact ⟨_, _, rfl⟩
 cases decide (24 < (len P : Int));rotate_left
 ·exact ⟨_, _, rfl⟩
 cases decide (fdG (GY S S' P) (len P) 0 < 0)
 ·exact ⟨_, _, rfl⟩
 cases decide (4 < (len Q : Int));rotate_left
 ·exact ⟨_, _, rfl⟩
 cases decide (fdG (GX C C' Q) (len Q) 0 < 0)
 ·exact ⟨_, _, rfl⟩
 ·exact ⟨_, _, rfl⟩
theorem Uz : FQ (Bs 0 0) (ni AB true) (Bs 0 0) AB = .row [.int 1, .bool true] := by
 rw [Zp, cT BO, ifT (by rfl), WR, ifF (by decide)]
theorem HS : ML (Bs 0 0) AB (.bool true) (Bs 0 0) AB (.bool true) (.int 0) (.int 0) (Bs 0 0) AB (Bs 0 0) AB (.int 0) (.int 0) = .row [.int 1, .bool true] := by
 rw [Z6, Uz];dsimp +instances only [Am, Al, Ac, Af];rw [ifT (by rfl), cond_true, ifT (by rfl), cond_true, ifT (by rfl), decide_eq_true rfl]
theorem bZ (hR : Rk S C T) (hR' : Rk S' C' T') {p : PK} (hp : POk S C S' C' p) {t x t' x' u y u' y' : D} {b b' : Bool} {c s : Int} (h1 : Cf S C p.1 t x) (h2 : Cf S' C' p.2 t' x') (h3 : Cf S C p.1 u y) (h4 : Cf S' C' p.2 u' y') :
  ML t x (.bool b) t' x' (.bool b') (.int c) (.int s) u y u' y' (.int c) (.int s) = .row [.int 1, .bool true] := by
 rw [Z6, NO hR hp.1 hp.1 h1.ni h3, NO hR' hp.2 hp.2 h2.ni h4, decide_eq_true rfl, decide_eq_true rfl];dsimp +instances only [Am, Al, Ac, Af];rw [ifT (by rfl), cond_true, ifT (by rfl), cond_true, ifT (by rfl), decide_eq_true rfl]
theorem Bv : (sl Fw 0).toInt = 1 := by rw [pO]; rfl
theorem Iq {w1 w2 w3 w4 : D} {i : Nat} (hn : len w3 < 1000) (hi : i < 100) : ∀ (n j : Nat) (s : Int), j + n = len w3 →
  JJ (.int s) (.int (j : Nat)) (.int (i : Nat)) v0 S C T v0' S' C' T' P Q w1 w2 w3 w4 = .row [.int 1, .bool true] ∨
  JJ (.int s) (.int (j : Nat)) (.int (i : Nat)) v0 S C T v0' S' C' T' P Q w1 w2 w3 w4 = Ly (.int (i + 1 : Nat)) v0 S C T v0' S' C' T' P Q
 | 0, j, s => fun h => by
  rw [ZM, ifF (by omega), AG (by omega)]
  by_cases c : 40 < s
  ·rw [ifT c];by_cases c2 : 2000 < s
   ·exact .inr (ifT c2)
   ·rw [ifF c2, ifT Bv];exact .inl rfl
  ·exact .inr (ifF c)
 | n + 1, j, s => fun h => by
  rw [ZM, ifT (by omega), ifF (by omega), AG (by omega)]
  by_cases c : (cl w3 j 1).toInt < 0
  ·rw [ifT c];exact Iq hn hi n (j + 1) _ (by omega)
  rw [ifF c];by_cases c2 : 3000 < (cl w3 j 1).toInt
  ·rw [ifT c2];exact Iq hn hi n (j + 1) _ (by omega)
  ·rw [ifF c2];exact Iq hn hi n (j + 1) _ (by omega)
theorem Y9 (hT : B4 T) (hT' : B4 T') (hc : ∀ i : Nat, i < len C → ∃ m, cl C i 1 = .int m) (hc' : ∀ i : Nat, i < len C' → ∃ m, cl C' i 1 = .int m) (hQ : Ej Q)
  (n1 : len S ≤ 8) (n2 : len T ≤ 20) (n3 : len C ≤ 5) (n4 : len S' ≤ 8) (n5 : len T' ≤ 20) (n6 : len C' ≤ 5) (n7 : len P ≤ 30) (n8 : len Q ≤ 8) : Ly (.int 2) v0 S C T v0' S' C' T' P Q = .row [.int 1, .bool true] := by
 have h10 := cP (v0 := v0) (v1 := S) (v2 := C) (v3 := T) (v4 := v0') (v5 := S') (v6 := C') (v7 := T') (v8 := P) (v9 := Q) hT hT' (by omega) (by omega) (by omega) (by omega) (by omega) (by omega) (by omega) (by omega)
 have h48 := cG (v0 := v0) (v1 := S) (v2 := C) (v3 := T) (v4 := v0') (v5 := S') (v6 := C') (v7 := T') (v8 := P) (v9 := Q) hT hT' hQ (by omega) (by omega) (by omega) (by omega) (by omega) (by omega) (by omega) (by omega)
 obtain ⟨a, e, hce⟩ := Y8 (v0 := v0) (S := S) (C := C) (T := T) (v0' := v0') (S' := S') (C' := C') (T' := T') (P := P) (Q := Q);rw [hce] at h10 h48;by_cases he : e = 0;rotate_left
 ·have h40 : Nx v0 S C T v0' S' C' T' P Q = .row [.int 1, Bs 0 0, AB, .bool true, Bs 0 0, AB, .bool true, .int 0, .int 0, .bool false, .int e] := by
   rw [ZU (h0 := rfl), h10];dsimp +instances only [Am, Al, Ac, Af];rw [ifT (by rfl), ifF he]
  rw [Lo (h0 := h40) (h1 := rfl) (h2 := rfl) (h3 := HS), ifF (by decide), h48]
  dsimp +instances only [Am, Al, Ac, Af];rw [ifT (by rfl), ifT (by rfl), ifF he, ifT (by rfl), cond_true, cond_false, ifT (by rfl), ifT Bv]
 subst he;obtain ⟨r1, r2, hC⟩ := aH n7 n8 hQ hce;have hR := Wn r1 hc hT n1 n2;have hR' := Wn r2 hc' hT' n4 n5;rcases dE hR hR' hC h10 with ⟨g, h40⟩ | ⟨g, h40⟩
 ·rcases Vc (v0 := v0) (v0' := v0') hR hR' hC with ⟨g', h64⟩ | ⟨g', _⟩
  ·rw [Lo (h0 := h40) (h1 := h64) (h2 := rfl) (h3 := HS), ifF (by decide), h48]
   dsimp +instances only [Am, Al, Ac, Af];rw [ifT (by rfl), ifT (by rfl), ifT (by rfl), ifT (by rfl), ifT (by rfl), cond_true, ifF (by decide), cond_false, ifT (by rfl), ifT Bv]
  ·omega
 ·rcases Vc (v0 := v0) (v0' := v0') hR hR' hC with ⟨g', h64⟩ | ⟨g', h64⟩
  ·omega
  cases c : res S C T S' C' T' P Q with
  | mk o ps =>
   rw [c] at h40 h64;cases o with
   | none =>
    have h64 : _ = _ := h64;have h40 : _ = _ := h40;by_cases q : 4000 < (ps.length : Int)
    ·rw [ifT q] at h40 h64;rw [Lo (h0 := h40) (h1 := h64) (h2 := rfl) (h3 := HS), ifF (by decide), h48]
     dsimp +instances only [Am, Al, Ac, Af];rw [ifT (by rfl), ifT (by rfl), ifT (by rfl), ifT (by rfl), ifT (by rfl), cond_true, ifF (by decide), cond_false, ifT (by rfl), ifT Bv]
    ·rw [ifF q] at h40 h64;rw [Lo (h0 := h40) (h1 := h64) (h2 := rfl) (h3 := HS), ifF (by decide), h48]
     dsimp +instances only [Am, Al, Ac, Af];rw [ifT (by rfl), ifT (by rfl), ifT (by rfl), ifT (by rfl), ifT (by rfl), cond_true, ifT (by rfl), cond_true, ifT (by rfl), ifT Bv]
   | some p =>
    obtain ⟨t, x, t', x', a1, a2, h64⟩ := h64;obtain ⟨y, y', b0, b1, b2, b3, h40⟩ := h40;rw [Lo (h0 := h40) (h1 := h64) (h2 := rfl) (h3 := rfl), ifF (by decide), h48]
    dsimp +instances only [Am, Al, Ac, Af];rw [ifT (by rfl), ifT (by rfl), ifT (by rfl), ifF (by decide), ifT (by rfl), bZ hR hR' b0 b1 b2 a1 a2]
    dsimp +instances only [Am, Al, Ac, Af];rw [ifT (by rfl), cond_true, cond_false, ifF (by omega), ifT (by rfl), ifT Bv]
theorem law (hT : B4 T) (hT' : B4 T') (hc : ∀ i : Nat, i < len C → ∃ m, cl C i 1 = .int m) (hc' : ∀ i : Nat, i < len C' → ∃ m, cl C' i 1 = .int m) (hQ : Ej Q) : Z7 v0 S C T v0' S' C' T' P Q = .row [.int 1, .bool true] := by
 rw [iq];by_cases c1 : 8 < (len S : Int)
 ·rw [ifT c1, ifT Bv]
 rw [ifF c1];by_cases c2 : 20 < (len T : Int)
 ·rw [ifT c2, ifT Bv]
 rw [ifF c2];by_cases c3 : 5 < (len C : Int)
 ·rw [ifT c3, ifT Bv]
 rw [ifF c3];by_cases c4 : 8 < (len S' : Int)
 ·rw [ifT c4, ifT Bv]
 rw [ifF c4];by_cases c5 : 20 < (len T' : Int)
 ·rw [ifT c5, ifT Bv]
 rw [ifF c5];by_cases c6 : 5 < (len C' : Int)
 ·rw [ifT c6, ifT Bv]
 rw [ifF c6];by_cases c7 : 30 < (len P : Int)
 ·rw [ifT c7, ifT Bv]
 rw [ifF c7];by_cases c8 : 8 < (len Q : Int)
 ·rw [ifT c8, ifT Bv]
 rw [ifF c8, Lo (h0 := rfl) (h1 := rfl) (h2 := rfl) (h3 := rfl), ifT (by decide), ifT (by rfl)]
 rcases Iq (i := 0) (v0 := v0) (S := S) (C := C) (T := T) (v0' := v0') (S' := S') (C' := C') (T' := T') (P := P) (Q := Q) (w1 := v0) (w2 := S) (w3 := C) (w4 := T) (by omega) (by omega) (len C) 0 0 (by omega) with h | h
 ·exact h
 refine h.trans ?_;show Ly (.int 1) v0 S C T v0' S' C' T' P Q = _;rw [Lo (h0 := rfl) (h1 := rfl) (h2 := rfl) (h3 := rfl), ifT (by decide), ifF (by decide), ifT (by rfl)]
 rcases Iq (i := 1) (v0 := v0) (S := S) (C := C) (T := T) (v0' := v0') (S' := S') (C' := C') (T' := T') (P := P) (Q := Q) (w1 := v0') (w2 := S') (w3 := C') (w4 := T') (by omega) (by omega) (len C') 0 0 (by omega) with h | h
 ·exact h
 refine h.trans ?_;exact Y9 hT hT' hc hc' hQ (by omega) (by omega) (by omega) (by omega) (by omega) (by omega) (by omega) (by omega)
end
end Cs

