/- What is proved here: an evaluator of the model's steps that the kernel can run, and that whatever it answers is what the model does (part 6 of 6: AeTop, AeVc1, AeVc2, AeVc3, AeDec1, AeDec2, AeDec3, AeDec4, AeDec5, AeShort). Conditions: those that each theorem states; they hold of no one program. -/
import Derived.Test.YtpcdkfgmpekeeaaBeE
import Derived.Carry
import Derived.Handed
import Derived.JoinedCond
set_option linter.unusedVariables false
set_option linter.unusedSectionVars false
set_option linter.unusedSimpArgs false
namespace Go.AE
open Go.RowKit
def W2 [Facts] (j : Nat) : Kd → AV
 | .int k => mkI k (.var j)
 | .bool => mkB true (.var j)
 | .str => .ss (.var j)
 | .slice e => .dat e (.var j)
def HM [Facts] : Nat → List Kd → List AV
 | _, [] => []
 | j, k :: ks => W2 j k :: HM (j + 1) ks
def IC : TypeDesc → Bool
 | .struct _ => true
 | _ => false
def E3 [Facts] (E : Env) : Nat → List TypeId → Option (List AV)
 | _, [] => some []
 | j, t :: ts => match E.desc t, E.kinds0 t with
  | some d, some ks => match E3 E (j + ks.length) ts with
   | some r => match IC d with
    | true => some (.agg (HM j ks) :: r)
    | false => match HM j ks with
     | [a] => some (a :: r)
     | _ => none
   | none => none
  | _, _ => none
def Bo (E : Env) : List TypeId → Option (List Kd)
 | [] => some []
 | t :: ts => match E.kinds0 t, Bo E ts with
  | some ks, some l => some (ks ++ l)
  | _, _ => none
def BX : Nat → List Kd → List (SB × Bool)
 | _, [] => []
 | j, .int k :: r => match decide (k = .i64) with
  | true => BX (j + 1) r
  | false => (.lss (.var j) (.c k.min), false) :: (.lss (.c k.max) (.var j), false) :: BX (j + 1) r
 | j, _ :: r => BX (j + 1) r
def inL (e : TypeId) : List TypeId → Bool
 | [] => false
 | f :: r => Nat.beq e f || inL e r
def OU (L : List TypeId) : Kd → Bool
 | .slice e => inL e L
 | _ => true
def Gj (E : Env) (L : List TypeId) : List TypeId → Bool
 | [] => true
 | e :: r => match E.kinds0 e with
  | some ks => !ks.isEmpty && ks.all (OU L) && Gj E L r
  | none => false
inductive DT where
 | leaf
 | split (e : SB) (t f : DT)
def C3 (fn : Nat → D → D) (ds : List D) : Val := { d := fun j => ds.getD j default, fn }
@[reducible] def Tw (P : Program) : Unk := { facts := [], V := C3 (fun _ d => d) [], K := (Env.of P).kinds, R := [], hR := fun _ _ _ _ _ h => by (cases h), ok := by simp }
def DVL (K : TypeId → Option (List Kd)) (M : Nat → Option (Array Value)) : List Kd → List Value → List D → Prop
 | [], [], [] => True
 | k :: ks, v :: vs, d :: ds => DV K M k v d ∧ DVL K M ks vs ds
 | _, _, _ => False
theorem DVL.len {K : TypeId → Option (List Kd)} {M : Nat → Option (Array Value)} : ∀ {ks : List Kd} {vs : List Value} {ds : List D}, DVL K M ks vs ds → ks.length = vs.length ∧ ks.length = ds.length
 | [], [], [], _ => ⟨rfl, rfl⟩
 | _ :: _, _ :: _, _ :: _, h => by have := DVL.len h.2; simp [this.1.symm, this.2.symm]
def Can : List Kd → List D → Prop
 | .int _ :: ks, d :: ds => (∃ n, d = .int n) ∧ Can ks ds
 | .bool :: ks, d :: ds => (∃ n, d = .bool n) ∧ Can ks ds
 | .str :: ks, d :: ds => (∃ n, d = .str n) ∧ Can ks ds
 | .slice _ :: ks, _ :: ds => Can ks ds
 | _, _ => True
def GI (K : TypeId → Option (List Kd)) : Nat → Kd → D → Prop
 | _, .int _, d => ∃ n, d = .int n
 | _, .bool, d => ∃ b, d = .bool b
 | _, .str, d => ∃ s, d = .str s
 | 0, .slice _, _ => True
 | m + 1, .slice e, d => ∃ nl rows, d = .slc nl rows ∧ (nl = true → rows = []) ∧ ∀ ks, K e = some ks → ∀ r ∈ rows, ∃ cs, r = .row cs ∧ cs.length = ks.length ∧ ∀ (j : Nat) kd, ks[j]? = some kd → GI K m kd (cs.getD j default)
def N7 (K : TypeId → Option (List Kd)) (m : Nat) (ks : List Kd) (xs : List D) : Prop := ∀ (j : Nat) kd, ks[j]? = some kd → GI K m kd (xs.getD j default)
def leB (o : Option Nat) (n : Nat) : Prop := ∀ b, o = some b → n ≤ b
def ShK (K : TypeId → Option (List Kd)) (o : Option Nat) : Nat → Kd → D → Prop
 | _, .int _, _ => True
 | _, .bool, _ => True
 | _, .str, d => leB o d.toStr.data.toList.length
 | 0, .slice _, _ => True
 | m + 1, .slice e, d => leB o d.rows.length ∧ ∀ ks, K e = some ks → ∀ i, i < d.rows.length → ∀ (j : Nat) kd, ks[j]? = some kd → ShK K o m kd ((d.rows.getD i default).cells.getD j default)
def ShL (K : TypeId → Option (List Kd)) (o : Option Nat) (m : Nat) (ks : List Kd) (xs : List D) : Prop := ∀ (j : Nat) kd, ks[j]? = some kd → ShK K o m kd (xs.getD j default)
mutual
def AJ {H : Type} (o : Option Nat) : DataW H → Prop
 | .lit (.string bytes) => leB o bytes.length
 | .lit _ => True
 | .nil => True
 | .ptr _ => True
 | .slice elems _ => leB o elems.length ∧ Bb o elems
 | .agg parts => Bb o parts
 | .iface _ _ => True
 | .map _ => True
 | .held _ => True
def Bb {H : Type} (o : Option Nat) : List (DataW H) → Prop
 | [] => True
 | d :: r => AJ o d ∧ Bb o r
end
mutual
theorem AJ.none {H : Type} : ∀ d : DataW H, AJ none d
 | .lit (.string _) => by rw [AJ]; intro b hb; cases hb
 | .lit (.bool _) => by simp [AJ]
 | .lit (.int _ _) => by simp [AJ]
 | .lit (.float _ _) => by simp [AJ]
 | .lit .nil => by simp [AJ]
 | .nil => by simp [AJ]
 | .ptr _ => by simp [AJ]
 | .slice elems _ => by rw [AJ]; exact ⟨fun b hb => (by cases hb), Bb.none elems⟩
 | .agg parts => by rw [AJ]; exact Bb.none parts
 | .iface _ _ => by simp [AJ]
 | .map _ => by simp [AJ]
 | .held _ => by simp [AJ]
theorem Bb.none {H : Type} : ∀ l : List (DataW H), Bb none l
 | [] => by simp [Bb]
 | d :: r => by rw [Bb]; exact ⟨AJ.none d, Bb.none r⟩
end
theorem Bb.get {H : Type} {o : Option Nat} : ∀ {l : List (DataW H)} {i : Nat} {d : DataW H}, Bb o l → l[i]? = some d → AJ o d
 | x :: l, 0, d, h, hi => by
  simp only [List.getElem?_cons_zero, Option.some.injEq] at hi;subst hi;rw [Bb] at h;exact h.1
 | x :: l, i + 1, d, h, hi => by
  rw [Bb] at h;exact h.2.get (by simpa using hi)
 | [], i, d, h, hi => by simp at hi
theorem DV.canK {K : TypeId → Option (List Kd)} {M : Nat → Option (Array Value)} {o : Option Nat} : ∀ (m : Nat) (kd : Kd) (v : Value) (d : D), DV K M kd v d → ∃ d', DV K M kd v d' ∧ GI K m kd d' ∧ (ShK K o m kd d → ShK K o m kd d')
 | m, .int k, v, d, h => by
  cases h with
  | int _ n _ hr q => exact ⟨.int n, .int k n _ hr rfl, by cases m <;> exact ⟨n, rfl⟩, fun _ => by cases m <;> trivial⟩
 | m, .bool, v, d, h => by
  cases h with
  | bool b _ q => exact ⟨.bool b, .bool b _ rfl, by cases m <;> exact ⟨b, rfl⟩, fun _ => by cases m <;> trivial⟩
 | m, .str, v, d, h => by
  cases h with
  | str b _ q => exact ⟨.str b, .str b _ rfl, by cases m <;> exact ⟨b, rfl⟩, fun hs => by cases m <;> (simp only [ShK] at hs ⊢; rw [q] at hs; exact hs)⟩
 | 0, .slice e, v, d, h => ⟨d, h, trivial, fun h => h⟩
 | m + 1, .slice e, v, d, h => by
  cases h with
  | nil _ _ h1 h2 => exact ⟨.slc true [], .nil e _ rfl rfl, ⟨true, [], rfl, fun _ => rfl, fun _ _ r hr => by cases hr⟩, fun _ => ⟨fun b _ => Nat.zero_le b, fun ks _ i hi => absurd hi (Nat.not_lt_zero i)⟩⟩
  | empty _ a cap _ h1 h2 => exact ⟨.slc false [], .empty e a cap _ rfl rfl, ⟨false, [], rfl, fun _ => rfl, fun _ _ r hr => by cases hr⟩, fun _ => ⟨fun b _ => Nat.zero_le b, fun ks _ i hi => absurd hi (Nat.not_lt_zero i)⟩⟩
  | slc _ b off n cap _ ks arr hk ha hn hc h1 hin hrow hv =>
   classical
   have key : ∀ i j, ∃ x, ∀ kd, i < n → ks[j]? = some kd → DV K M kd (arr.getD (off + i * ks.length + j) Go.undef) x ∧ GI K m kd x ∧ (ShK K o m kd ((d.rows.getD i default).cells.getD j default) → ShK K o m kd x) := by
    intro i j;cases hj : ks[j]? with
    | none => exact ⟨default, fun kd _ h => by cases h⟩
    | some kd =>
     by_cases hi : i < n
     ·obtain ⟨x, q1, q2⟩ := DV.canK m kd _ _ (hv i j kd hi hj);exact ⟨x, fun kd' _ h => by cases h; exact ⟨q1, q2⟩⟩
     ·exact ⟨default, fun kd _ h => absurd ‹i < n› hi⟩
   let f : Nat → Nat → D := fun i j => Classical.choose (key i j)
   have hf : ∀ i j kd, i < n → ks[j]? = some kd → DV K M kd (arr.getD (off + i * ks.length + j) Go.undef) (f i j) ∧ GI K m kd (f i j) ∧ (ShK K o m kd ((d.rows.getD i default).cells.getD j default) → ShK K o m kd (f i j)) := fun i j => Classical.choose_spec (key i j)
   have hr : ∀ i, i < n → ((List.range n).map fun i => D.row ((List.range ks.length).map (f i))).getD i default = .row ((List.range ks.length).map (f i)) := by
    intro i hi;simp [List.getD_eq_getElem?_getD, hi]
   have hcell : ∀ i j, j < ks.length → ((List.range ks.length).map (f i)).getD j default = f i j := by
    intro i j hj;simp [List.getD_eq_getElem?_getD, hj]
   have hjl : ∀ {j : Nat} {kd : Kd}, ks[j]? = some kd → j < ks.length := fun h => (List.getElem?_eq_some_iff.1 h).1
   refine ⟨.slc false ((List.range n).map fun i => .row ((List.range ks.length).map (f i))), .slc e b off n cap _ ks arr hk ha (by show (List.map _ _).length = n; simp) hc rfl hin (fun i hi => ?_) (fun i j kd hi hj => ?_), ⟨false, _, rfl, (fun h => by cases h), fun ks' hk' r hr' => ?_⟩, fun hs => ⟨?_, fun ks' hk' i hi j kd hj => ?_⟩⟩
   ·show (((List.range n).map fun i => D.row ((List.range ks.length).map (f i))).getD i default).cells.length = _
    rw [hr i hi];simp [D.cells]
   ·show DV K M kd _ ((((List.range n).map fun i => D.row ((List.range ks.length).map (f i))).getD i default).cells.getD j default)
    rw [hr i hi];show DV K M kd _ (((List.range ks.length).map (f i)).getD j default);rw [hcell i j (hjl hj)];exact (hf i j kd hi hj).1
   ·rw [hk] at hk';cases hk';obtain ⟨i, hi, e⟩ := List.mem_map.1 hr';refine ⟨_, e.symm, by simp, fun j kd hj => ?_⟩
    rw [hcell i j (hjl hj)];exact (hf i j kd (List.mem_range.1 hi) hj).2.1
   ·have e : (D.slc false ((List.range n).map fun i => D.row ((List.range ks.length).map (f i)))).rows.length = d.rows.length := by rw [hn]; simp [D.rows]
    rw [e];exact hs.1
   ·rw [hk] at hk';cases hk'
    have hi' : i < n := by
     have : i < ((List.range n).map fun i => D.row ((List.range ks.length).map (f i))).length := hi
     simpa using this
    show ShK K o m kd ((((List.range n).map fun i => D.row ((List.range ks.length).map (f i))).getD i default).cells.getD j default)
    rw [hr i hi'];show ShK K o m kd (((List.range ks.length).map (f i)).getD j default);rw [hcell i j (hjl hj)];exact (hf i j kd hi' hj).2.2 (hs.2 ks hk i (by rw [hn]; exact hi') j kd hj)
theorem DVL.can {K : TypeId → Option (List Kd)} {M : Nat → Option (Array Value)} {o : Option Nat} : ∀ {ks : List Kd} {cs : List Value} {xs : List D}, DVL K M ks cs xs → ShL K o 9 ks xs → ∃ ys, DVL K M ks cs ys ∧ (Can ks ys ∧ N7 K 9 ks ys) ∧ ShL K o 9 ks ys
 | [], [], [], h, _ => ⟨[], h, ⟨trivial, fun j kd h => by simp at h⟩, fun j kd h => by simp at h⟩
 | k :: ks, v :: vs, d :: ds, h, hs => by
  obtain ⟨ys, h1, ⟨h2, h3⟩, h4⟩ := DVL.can (o := o) h.2 (fun j kd hj => by simpa using hs (j + 1) kd (by simpa using hj))
  obtain ⟨d', q1, q2, q3⟩ := DV.canK (o := o) 9 k v d h.1;refine ⟨d' :: ys, ⟨q1, h1⟩, ⟨?_, fun j kd hj => ?_⟩, fun j kd hj => ?_⟩
  rotate_left 2
  ·cases j with
   | zero => simp only [List.getElem?_cons_zero, Option.some.injEq] at hj; subst hj; exact q3 (hs 0 k rfl)
   | succ j => simpa using h4 j kd (by simpa using hj)
  ·cases k with
   | int k => exact ⟨q2, h2⟩
   | bool => exact ⟨q2, h2⟩
   | str => exact ⟨q2, h2⟩
   | slice e => exact h2
  ·cases j with
   | zero => simp only [List.getElem?_cons_zero, Option.some.injEq] at hj; subst hj; exact q2
   | succ j => simpa using h3 j kd (by simpa using hj)
theorem ShL.append {K : TypeId → Option (List Kd)} {o : Option Nat} {m : Nat} {ks ks' : List Kd} {xs xs' : List D} (hl : ks.length = xs.length) (h : ShL K o m ks xs) (h' : ShL K o m ks' xs') : ShL K o m (ks ++ ks') (xs ++ xs') := by
 intro j kd hj;rcases Nat.lt_or_ge j ks.length with c | c
 ·rw [List.getElem?_append_left c] at hj;have := h j kd hj;simpa [List.getD_eq_getElem?_getD, List.getElem?_append_left (show j < xs.length by omega)] using this
 ·rw [List.getElem?_append_right c] at hj;have := h' (j - ks.length) kd hj;simpa [List.getD_eq_getElem?_getD, List.getElem?_append_right (show xs.length ≤ j by omega), ← hl] using this
theorem N7.append {K : TypeId → Option (List Kd)} {m : Nat} {ks ks' : List Kd} {xs xs' : List D} (hl : ks.length = xs.length) (h : N7 K m ks xs) (h' : N7 K m ks' xs') : N7 K m (ks ++ ks') (xs ++ xs') := by
 intro j kd hj;rcases Nat.lt_or_ge j ks.length with c | c
 ·rw [List.getElem?_append_left c] at hj;have := h j kd hj;simpa [List.getD_eq_getElem?_getD, List.getElem?_append_left (show j < xs.length by omega)] using this
 ·rw [List.getElem?_append_right c] at hj;have := h' (j - ks.length) kd hj;simpa [List.getD_eq_getElem?_getD, List.getElem?_append_right (show xs.length ≤ j by omega), ← hl] using this
theorem Can.append {K : TypeId → Option (List Kd)} {M : Nat → Option (Array Value)} : ∀ {ks ks' : List Kd} {cs : List Value} {xs xs' : List D}, DVL K M ks cs xs → Can ks xs → Can ks' xs' → Can (ks ++ ks') (xs ++ xs')
 | [], _, [], [], _, _, _, h' => h'
 | .int _ :: _, _, _ :: _, _ :: _, _, hd, h, h' => ⟨h.1, Can.append hd.2 h.2 h'⟩
 | .bool :: _, _, _ :: _, _ :: _, _, hd, h, h' => ⟨h.1, Can.append hd.2 h.2 h'⟩
 | .str :: _, _, _ :: _, _ :: _, _, hd, h, h' => ⟨h.1, Can.append hd.2 h.2 h'⟩
 | .slice _ :: ks, ks', _ :: cs, _ :: xs, xs', hd, h, h' => Can.append (ks := ks) (ks' := ks') (cs := cs) (xs := xs) (xs' := xs') hd.2 h h'
theorem DVL.append {K : TypeId → Option (List Kd)} {M : Nat → Option (Array Value)} : ∀ {ks ks' : List Kd} {vs vs' : List Value} {ds ds' : List D}, DVL K M ks vs ds → DVL K M ks' vs' ds' → DVL K M (ks ++ ks') (vs ++ vs') (ds ++ ds')
 | [], _, [], _, [], _, _, h => h
 | _ :: _, _, _ :: _, _, _ :: _, _, h, h' => ⟨h.1, DVL.append h.2 h'⟩
theorem DVL.get {K : TypeId → Option (List Kd)} {M : Nat → Option (Array Value)} : ∀ {ks : List Kd} {vs : List Value} {ds : List D}, DVL K M ks vs ds → ∀ {j : Nat} {k : Kd} {d : D}, ks[j]? = some k → ds[j]? = some d → ∃ v, vs[j]? = some v ∧ DV K M k v d
 | [], [], [], _, j, k, d, h, _ => by simp at h
 | _ :: _, _ :: _, _ :: _, h, 0, k, d, h1, h2 => by
  simp only [List.getElem?_cons_zero, Option.some.injEq] at h1 h2;subst h1; subst h2;exact ⟨_, rfl, h.1⟩
 | _ :: _, _ :: _, _ :: _, h, j + 1, k, d, h1, h2 => by
  simp only [List.getElem?_cons_succ] at h1 h2 ⊢;exact DVL.get h.2 h1 h2
theorem IV [U : Unk] (ρ : Ren) : ∀ (ks : List Kd) (vs : List Value) (ds : List D) (j : Nat), (∀ i, i < ds.length → U.V.d (j + i) = ds.getD i default) → DVL U.K ρ.imm ks vs ds → VL ρ (HM j ks) vs
 | [], [], [], _, _, _ => VL.nil ρ
 | k :: ks, v :: vs, d :: ds, j, hi, h => by
  have h0 : U.V.d j = d := by have := hi 0 (by simp); simpa using this
  refine VL.cons ?_ (IV ρ ks vs ds (j + 1) (fun i hl => by have := hi (i + 1) (by simp; omega); rw [show j + 1 + i = j + (i + 1) by omega, this]; simp) h.2)
  have hk := h.1;have he : Ab U.V (.var j) = d := h0;rw [← he] at hk;generalize hq : Ab U.V (.var j) = d' at hk;cases hk with
  | int k n _ hr h3 =>
   have := CA ρ k (.var j);have e : Ac U.V (.var j) = n := by unfold Ac; rw [hq]; exact h3
   rw [e] at this; exact this
  | bool b _ h3 =>
   have := Ha ρ true (.var j);have e : (Ad U.V (.var j) == true) = b := by unfold Ad; rw [hq, h3]; cases b <;> rfl
   rw [e] at this; exact this
  | str s _ h3 =>
   have := VR.ss (ρ := ρ) (.var j);have e : AM U.V (.var j) = s := by unfold AM; rw [hq]; exact h3
   rw [e] at this; exact this
  | nil e _ h1 h2 => exact .dat e (.var j) _ _ _ (by rw [hq]; exact .nil e _ h1 h2)
  | empty e a cap _ h1 h2 => exact .dat e (.var j) _ _ _ (by rw [hq]; exact .empty e a cap _ h1 h2)
  | slc e b off n cap _ ks arr hk ha hn hc h1 hin hrow hv => exact .dat e (.var j) _ _ _ (by rw [hq]; exact .slc e b off n cap _ ks arr hk ha hn hc h1 hin hrow hv)
theorem GC [U : Unk] {K : TypeId → Option (List Kd)} {M : Nat → Option (Array Value)} {V : Val} : ∀ (ks : List Kd) (vs : List Value) (ds : List D) (j : Nat), (∀ i, i < ds.length → V.d (j + i) = ds.getD i default) → DVL K M ks vs ds → ∀ e b, (e, b) ∈ BX j ks → Ad V e = b
 | [], [], [], _, _, _, e, b, hm => by simp [BX] at hm
 | k :: ks, v :: vs, d :: ds, j, hi, h, e, b, hm => by
  have h0 : V.d j = d := by have := hi 0 (by simp); simpa using this
  have ih := GC ks vs ds (j + 1) (fun i hl => by have := hi (i + 1) (by simp; omega); rw [show j + 1 + i = j + (i + 1) by omega, this]; simp) h.2 e b
  have hk := h.1;cases hk with
  | int k n _ hr h3 =>
   have e0 : (Ab V (.var j)).toInt = n := by simp only [Ab, h0]; exact h3
   simp only [BX] at hm;split at hm
   ·exact ih hm
   ·rename_i hk;have hb := hr.resolve_left (by simpa using hk)
    simp only [List.mem_cons, Prod.mk.injEq] at hm;rcases hm with ⟨rfl, rfl⟩ | ⟨rfl, rfl⟩ | hm
    ·rw [Ax, decide_eq_false_iff_not]; simp only [Ac];rw [e0]; show ¬ _ < _; have := hb.1; have := hb.2; simp only [Ab, D.toInt]; omega
    ·rw [Ax, decide_eq_false_iff_not]; simp only [Ac];rw [e0]; show ¬ _ < _; have := hb.1; have := hb.2; simp only [Ab, D.toInt]; omega
    ·exact ih hm
  | bool => exact ih hm
  | str => exact ih hm
  | nil => exact ih hm
  | empty => exact ih hm
  | slc => exact ih hm
def FU (w : World) (k : Nat) : Option (Array Value) := match w.heap[k]? with
 | some (.cells c _ _) => some c
 | _ => none
theorem Mn {w : World} {a : Addr} {v : Value} (h : w.cell? a = some v) : ∃ arr, FU w a.block = some arr ∧ a.spot = none ∧ arr[a.off]? = some v := by
 unfold World.cell? at h;unfold FU;split at h
 ·rename_i c _ _ hc;rw [hc];split at h
  ·cases h
  ·rename_i hs;refine ⟨c, rfl, ?_, h⟩;cases hq : a.spot with
   | none => rfl
   | some x => rw [hq] at hs; simp at hs
 ·cases h
theorem La {w : World} {base n : Nat} {a : Addr} {cs : List Value} (h : w.cells? base a n = some cs) (hn : 0 < n) : ∃ arr, FU w a.block = some arr ∧ a.spot = none ∧ cs.length = n ∧ ∀ j, j < n → arr[a.off + j]? = cs[j]? := by
 unfold World.cells? at h;split at h
 ·have hl : cs.length = n := by simpa using mapM_some_length h
  have hg : ∀ j, j < n → w.cell? (a.add j) = cs[j]? := fun j hj => mapM_some_get h j j (by simp [hj])
  have h0 := hg 0 hn;have e0 : a.add 0 = a := by simp [Addr.add]
  rw [e0] at h0;have hc0 : cs[0]? = some cs[0] := by simp
  rw [hc0] at h0;obtain ⟨arr, q1, q2, q3⟩ := Mn h0;refine ⟨arr, q1, q2, hl, fun j hj => ?_⟩
  have hj' := hg j hj;have hcj : cs[j]? = some cs[j] := by simp [hl, hj]
  rw [hcj] at hj' ⊢;obtain ⟨arr', p1, p2, p3⟩ := Mn hj';by_cases hz : j = 0
  ·subst hz;rw [e0] at p1 p3;rw [q1] at p1; cases p1;exact p3
  ·simp only [Addr.add, if_neg hz] at p1 p3;rw [q1] at p1; cases p1;exact p3
 ·cases h
theorem I5 {P : Nat → D → Prop} : ∀ (n : Nat), (∀ i, i < n → ∃ d, P i d) → ∃ l : List D, l.length = n ∧ ∀ i, i < n → ∃ d, l[i]? = some d ∧ P i d
 | 0, _ => ⟨[], rfl, fun i hi => by omega⟩
 | n + 1, h => by
  obtain ⟨l, h1, h2⟩ := I5 n (fun i hi => h i (by omega))
  obtain ⟨d, hd⟩ := h n (by omega)
  refine ⟨l ++ [d], by simp [h1], fun i hi => ?_⟩
  by_cases e : i < n
  ·obtain ⟨x, q1, q2⟩ := h2 i e;exact ⟨x, by rw [List.getElem?_append_left (by omega)]; exact q1, q2⟩
  ·have : i = n := by omega
   subst this;exact ⟨d, by rw [List.getElem?_append_right (by omega), h1]; simp, hd⟩
theorem Kp {sz : TypeId → Nat → Bool} {r1 r2 : TypeId → Option (List Kd)} (h : ∀ t ks, r1 t = some ks → r2 t = some ks) : ∀ (fs : List Field) (off : Nat) (ks : List Kd), Eb sz r1 fs off = some ks → Eb sz r2 fs off = some ks
 | [], _, _, q => q
 | f :: r, off, ks, q => by
  simp only [Eb] at q ⊢;split at q
  ·rename_i l1 e1 e2;rw [h _ _ e2];split at q
   ·rename_i l2 e3 e4;simp only [e1, e3, Kp h r _ _ e4];exact q
   ·cases q
  ·cases q
theorem My {desc : TypeId → Option TypeDesc} {sz : TypeId → Nat → Bool} : ∀ (n : Nat) (t : TypeId) (ks : List Kd), Ds false desc sz n t = some ks → Ds true desc sz n t = some ks
 | 0, _, _, h => h
 | n + 1, t, ks, h => by
  have key : ∀ l, H8 false sz (Ds false desc sz n) (desc t) = some l → H8 true sz (Ds true desc sz n) (desc t) = some l := by
   intro l q;cases hd : desc t with
   | none => rw [hd] at q; exact q
   | some d =>
    rw [hd] at q;cases d <;> first | exact q | skip
    ·simp [H8] at q
    ·exact Kp (My n) _ _ _ q
  simp only [Ds] at h ⊢;split at h
  ·rename_i l hl;rw [key l hl];exact h
  ·cases h
theorem R5 {E : Env} {t : TypeId} {ks : List Kd} (h : E.kinds0 t = some ks) : E.kinds t = some ks := My 20 t ks h
theorem TK {E : Env} {L : List TypeId} : ∀ {l : List TypeId} {e : TypeId}, Gj E L l = true → inL e l = true → ∃ ks, E.kinds0 e = some ks ∧ ks ≠ [] ∧ ks.all (OU L) = true
 | [], e, _, h => by simp [inL] at h
 | f :: r, e, hc, h => by
  simp only [Gj] at hc;split at hc
  ·rename_i ks hk;simp only [Bool.and_eq_true, Bool.not_eq_true', List.isEmpty_eq_false_iff] at hc;simp only [inL, Bool.or_eq_true] at h;rcases h with h | h
   ·rw [AA h]; exact ⟨ks, hk, hc.1.1, hc.1.2⟩
   ·exact TK hc.2 h
  ·cases hc
section
variable {E : Env} {L : List TypeId} {H : Type} {enc : TypeId × Value → H} {w : World} {base : Nat} {sp : Nat → Bool} {held : Bool}
theorem GL [U : Unk] (hE : OK E) {t : TypeId} {n : Nat} (h : E.szIs t n = true) : E.P.cellsOf t = n := by
 unfold Env.szIs at h;cases hi : E.ty.get t with
 | none => rw [hi] at h; cases h
 | some i => rw [hi] at h; simp [Program.cellsOf, hE.ty t i hi, AA h]
theorem Pz [U : Unk] (hE : OK E) {rec_ : TypeId → Option (List Kd)} {o : Option Nat} {m : Nat} {cs : List Value} (hrec : ∀ t ks cs x, rec_ t = some ks → ks.all (OU L) = true → DataW.trod enc E.P w base sp held m t cs = some x → AJ o x.1 → ∃ ds, DVL E.kinds (FU w) ks cs ds ∧ ∀ q, ShL E.kinds o q ks ds) :
  ∀ (fs : List Field) (off : Nat) (ks : List Kd), Eb E.szIs rec_ fs off = some ks → ks.all (OU L) = true → (∀ f ∈ fs, ∃ x, DataW.trod enc E.P w base sp held m f.type ((cs.drop f.offset).take (E.P.cellsOf f.type)) = some x ∧ AJ o x.1) → ∃ ds, DVL E.kinds (FU w) ks ((cs.drop off).take ks.length) ds ∧ ∀ q, ShL E.kinds o q ks ds := by
 intro fs
 induction fs with
 | nil => intro off ks h _ _; simp [Eb] at h; subst h; exact ⟨[], by simp [DVL], fun q j kd h => by simp at h⟩
 | cons f r ih =>
  intro off ks h hin hx;simp only [Eb] at h;split at h
  ·rename_i k1 ho hk;split at h
   ·rename_i l hs hl;cases h;rw [List.all_append, Bool.and_eq_true] at hin;obtain ⟨x, hx1, hx2⟩ := hx f (by simp)
    have hoff := AA ho;have hsz := GL hE hs;obtain ⟨d1, q1, s1⟩ := hrec _ _ _ _ hk hin.1 hx1 hx2;rw [hsz, hoff] at q1;obtain ⟨d2, q2, s2⟩ := ih _ _ hl hin.2 (fun f hf => hx f (by simp [hf]))
    have e : (cs.drop off).take (k1 ++ l).length = (cs.drop off).take k1.length ++ (cs.drop (off + k1.length)).take l.length := by
     rw [List.length_append, List.take_add, List.drop_drop]
    rw [e];exact ⟨d1 ++ d2, q1.append q2, fun q => (s1 q).append q1.len.2 (s2 q)⟩
   ·cases h
  ·cases h
theorem Vi [U : Unk] (hE : OK E) (hL : Gj E L L = true) {o : Option Nat} : ∀ (m n : Nat) (t : TypeId) (ks : List Kd) (cs : List Value) (x : DataW H × List MemPlace), Ds false E.desc E.szIs n t = some ks → ks.all (OU L) = true → DataW.trod enc E.P w base sp held m t cs = some x → AJ o x.1 → ∃ ds, DVL E.kinds (FU w) ks cs ds ∧ ∀ q, ShL E.kinds o q ks ds := by
  intro m
  have one : ∀ {kd : Kd} {d : D}, (∀ q, ShK E.kinds o q kd d) → ∀ q, ShL E.kinds o q [kd] [d] := by
    intro kd d h q j kd' hj;cases j with
    | zero => simp only [List.getElem?_cons_zero, Option.some.injEq] at hj; subst hj; exact h q
    | succ j => simp at hj
  induction m using Nat.strongRecOn with
  | _ m ih =>
    intro n t ks cs x h0 hin hx hsw;obtain ⟨hsz, n', rfl, h⟩ := kinds_size h0;clear h0;cases hd : E.desc t with
    | none => rw [hd] at h; cases h
    | some d =>
      have hu := hE.und hd;rw [hd] at h;cases m with
      | zero => simp [DataW.trod] at hx
      | succ m =>
      cases d <;> first | (cases h; done) | skip
      case bool =>
        cases h;unfold DataW.trod at hx;rw [hu] at hx;split at hx <;> simp_all
        exact ⟨[.bool _], ⟨.bool _ _ rfl, trivial⟩, one fun q => by cases q <;> trivial⟩
      case int k =>
        cases h;unfold DataW.trod at hx;rw [hu] at hx
        have go : ∀ {k' : IntKind} {n : Int}, (k' = k ∧ (Lit.int k n).wf = true) → ∃ ds, DVL E.kinds (FU w) [.int k] [.int k' n] ds ∧ ∀ q, ShL E.kinds o q [.int k] ds := by
          rintro k' n ⟨rfl, hw⟩
          have hb : k'.min ≤ n ∧ n ≤ k'.max := by simpa [Lit.wf] using hw
          exact ⟨[.int n], ⟨.int _ _ _ (.inr hb) rfl, trivial⟩, one fun q => by cases q <;> trivial⟩
        split at hx <;> first | (cases hx; done) | skip
        all_goals
          first
            | (split at hx
               · rename_i hq; simp_all
               · cases hx)
            | simp_all
      case string =>
        cases h;unfold DataW.trod at hx;rw [hu] at hx;split at hx <;> first | (simp at hx; done) | skip
        all_goals first
          | (rename_i hh; cases hh; done)
          | (rename_i hh _; cases hh; done)
          | skip
        all_goals
          rename_i s _;split at hx
          · simp only [Option.some.injEq] at hx
            subst hx;exact ⟨[.str s], ⟨.str _ _ rfl, trivial⟩, one fun q => by cases q <;> (simp only [AJ] at hsw; exact hsw)⟩
          · cases hx
      case slice e =>
        cases h;simp only [List.all_cons, List.all_nil, Bool.and_true, OU] at hin;obtain ⟨ke, hke0, hne, hall⟩ := TK hL hin;have hke := R5 hke0;rcases DataW.trod_slice hu hx with ⟨rfl, _⟩ | ⟨a, len, cap, elems, rest, q, hq, rfl, hxe, hb, hl, hc, hlen, hel, _, _⟩
        · exact ⟨[.slc true []], ⟨.nil e _ rfl rfl, trivial⟩, one fun q => by cases q <;> first | trivial | exact ⟨fun b _ => Nat.zero_le b, fun _ _ i hi => absurd hi (Nat.not_lt_zero i)⟩⟩
        · by_cases h0 : len = 0
          · subst h0
            exact ⟨[.slc false []], ⟨.empty e a cap _ rfl rfl, trivial⟩, one fun q => by cases q <;> first | trivial | exact ⟨fun b _ => Nat.zero_le b, fun _ _ i hi => absurd hi (Nat.not_lt_zero i)⟩⟩
          · have hes : E.P.cellsOf e = ke.length := GL hE (kinds_size hke).1
            have hpos : 0 < ke.length := by cases ke with | nil => exact absurd rfl hne | cons => simp
            rw [hes] at hel
            obtain ⟨rows, r1, r2⟩ := I5 (P := fun i d => ∃ ds cells, d = .row ds ∧ w.cells? base (a.add (i * ke.length)) ke.length = some cells ∧ DVL E.kinds (FU w) ke cells ds ∧ ∀ q, ShL E.kinds o q ke ds) len (by
              intro i hi;have := hel i hi;have he : elems[i]? = some elems[i] := by simp [hlen, hi]
              rw [he] at this;simp only [Option.bind_eq_some_iff] at this;obtain ⟨cells, c1, c2⟩ := this
              have hse : AJ o (elems[i]).1 := by
                rw [hxe] at hsw;simp only [AJ] at hsw;exact hsw.2.get (i := i) (by simp [hlen, hi])
              obtain ⟨ds, hds, hds2⟩ := ih q (by omega) 20 e ke cells _ hke0 hall c2 hse
              exact ⟨.row ds, ds, cells, rfl, c1, hds, hds2⟩)
            obtain ⟨_, _, ds0, cells0, _, c0, _⟩ := r2 0 (by omega)
            have ea : a.add (0 * ke.length) = a := by simp [Addr.add]
            rw [ea] at c0;obtain ⟨arr, s1, s2, _, s4⟩ := La c0 hpos;have spot : a = ⟨a.block, a.off, none⟩ := by cases a; simp at s2; simp [s2]
            have key : ∀ i, i < len → ∃ ds cells, rows[i]? = some (.row ds) ∧ (DVL E.kinds (FU w) ke cells ds ∧ ∀ q, ShL E.kinds o q ke ds) ∧ ∀ j, j < ke.length → arr[a.off + i * ke.length + j]? = cells[j]? := by
              intro i hi;obtain ⟨d, g1, ds, cells, g2, g3, g4, g5⟩ := r2 i hi;subst g2;refine ⟨ds, cells, g1, ⟨g4, g5⟩, ?_⟩;obtain ⟨arr', t1, t2, _, t4⟩ := La g3 hpos;by_cases hz : i * ke.length = 0
              · rw [hz] at t1 t4 ⊢
                have e0 : a.add 0 = a := by simp [Addr.add]
                rw [e0] at t1 t4;rw [s1] at t1; cases t1;simpa using t4
              · simp only [Addr.add, if_neg hz] at t1 t4
                rw [s1] at t1; cases t1;exact t4
            refine ⟨[.slc false rows], ⟨?_, trivial⟩, one fun q => by
              cases q with
              | zero => trivial
              | succ q =>
                refine ⟨by
                  rw [hxe] at hsw;simp only [AJ] at hsw;have e : (D.slc false rows).rows.length = elems.length := by rw [hlen]; exact r1
                  rw [e];exact (List.length_map (as := elems) (·.1)) ▸ hsw.1, fun ks' hk' i hi j kd hj => ?_⟩
                have hk2 : ks' = ke := Option.some.inj (hk'.symm.trans hke);subst hk2;have hi' : i < len := by have : i < rows.length := hi; omega
                obtain ⟨ds, cells, g1, ⟨_, g2⟩, _⟩ := key i hi';have er : (D.rows (.slc false rows)).getD i default = .row ds := by simp [D.rows, List.getD_eq_getElem?_getD, g1]
                rw [er];exact g2 q j kd hj⟩
            rw [spot];refine .slc e a.block a.off len cap (.slc false rows) ke arr hke s1 r1 hl rfl ?_ (fun i hi => ?_) ?_
            · obtain ⟨ds, cells, _, ⟨g2, _⟩, g3⟩ := key (len - 1) (by omega)
              have := g3 (ke.length - 1) (by omega)
              have hcl := g2.len.1;have hc1 : cells[ke.length - 1]? = some (cells[ke.length - 1]'(by omega)) := by simp
              rw [hc1] at this;have hlt := (Array.getElem?_eq_some_iff.1 this).1
              have : len * ke.length = (len - 1) * ke.length + ke.length := by
                rw [← Nat.succ_mul]; congr 1; omega
              omega
            · obtain ⟨ds, cells, g1, ⟨g2, _⟩, _⟩ := key i hi
              have er : (D.rows (.slc false rows)).getD i default = .row ds := by simp [D.rows, List.getD_eq_getElem?_getD, g1]
              rw [er]; exact g2.len.2.symm
            · intro i j kd hi hj
              obtain ⟨ds, cells, g1, ⟨g2, _⟩, g3⟩ := key i hi;have er : (D.rows (.slc false rows)).getD i default = .row ds := by simp [D.rows, List.getD_eq_getElem?_getD, g1]
              rw [er];have hjl : j < ke.length := (List.getElem?_eq_some_iff.1 hj).1
              have hjd : ds[j]? = some ((D.cells (.row ds)).getD j default) := by
                have : j < ds.length := by rw [← g2.len.2]; exact hjl
                simp [D.cells, List.getD_eq_getElem?_getD, this]
              obtain ⟨v, v1, v2⟩ := g2.get hj hjd;have := g3 j hjl;rw [v1] at this;have ev : arr.getD (a.off + i * ke.length + j) Go.undef = v := by simp [Array.getD_eq_getD_getElem?, this]
              rw [ev]; exact v2
      case struct fs =>
        simp only [H8] at h;obtain ⟨xs, q, e1, e2, e3, e4, e5⟩ := DataW.trod_struct hu hx;rw [e2] at hsw;simp only [AJ] at hsw
        obtain ⟨ds, this, this2⟩ := Pz hE (L := L) (o := o) (m := q) (cs := cs) (fun t ks cs x a b c d => ih q (by omega) n' t ks cs x a b c d) fs.toList 0 ks h hin (fun f hf => by
          obtain ⟨i, hi, rfl⟩ := List.getElem_of_mem hf;have hi' : i < fs.size := by simpa using hi
          have h5 := e5 i fs[i] (by simp [hi'])
          have hxi : i < xs.length := by omega
          exact ⟨xs[i], by simpa [hxi] using h5, hsw.get (i := i) (by simp [hxi])⟩)
        have hlen : cs.length = ks.length := by rw [e3, GL hE hsz]
        rw [List.drop_zero, ← hlen, List.take_length] at this;exact ⟨ds, this, this2⟩
theorem Xb [U : Unk] (hE : OK E) (hL : Gj E L L = true) {o : Option Nat} : ∀ (ts : List TypeId) (vs : List Value) (ds : List (DataW H)) (ps : List MemPlace) (ks : List Kd), DataW.TrodAll enc E.P w base sp held ts vs ds ps →
  (∀ (j : Nat) t v, ts[j]? = some t → vs[j]? = some v → ∃ r b0, Value.okWide E.P w r b0 t v) → Bo E ts = some ks → ks.all (OU L) = true → Bb o ds →
  ∃ (cs : List Value) (xs : List D), DVL E.kinds (FU w) ks cs xs ∧ ((Can ks xs ∧ N7 E.kinds 9 ks xs) ∧ ShL E.kinds o 9 ks xs) ∧ ∀ (U : Unk) (j : Nat) (args : List AV) (ρ : Ren), U.K = E.kinds → ρ.imm = FU w → (∀ i, i < xs.length → U.V.d (j + i) = xs.getD i default) → E3 E j ts = some args → VL ρ args vs := by
 intro ts
 induction ts with
 | nil =>
  intro vs ds ps ks hA hval hk _ _;cases vs with
  | nil =>
   simp [Bo] at hk;subst hk;exact ⟨[], [], trivial, ⟨⟨trivial, fun j kd h => by simp at h⟩, fun j kd h => by simp at h⟩, fun U j args ρ _ _ _ ha => by simp [E3] at ha; subst ha; exact VL.nil ρ⟩
  | cons => cases ds <;> simp [DataW.TrodAll] at hA
 | cons t ts ih =>
  intro vs ds ps ks hA hval hk hin hsw;cases vs with
  | nil => cases ds <;> simp [DataW.TrodAll] at hA
  | cons v vs =>
   cases ds with
   | nil => simp [DataW.TrodAll] at hA
   | cons d ds =>
    obtain ⟨p, q, ⟨fuel, hx⟩, hA2, _⟩ := hA;simp only [Bo] at hk;split at hk
    ·rename_i k1 l h1 hl;cases hk;rw [List.all_append, Bool.and_eq_true] at hin;obtain ⟨cs, xs, q1, qc, q2⟩ := ih vs ds q l hA2 (fun j t v ht hv => hval (j + 1) t v (by simpa using ht) (by simpa using hv)) hl hin.2 hsw.2
     obtain ⟨x0, hkl0, hsh0⟩ := Vi hE hL (o := o) fuel 20 t k1 _ _ h1 hin.1 hx hsw.1;obtain ⟨x1, hkl, hc1, hsh1⟩ := hkl0.can (hsh0 9);refine ⟨v.cells.toList ++ cs, x1 ++ xs, hkl.append q1, ⟨⟨Can.append hkl hc1.1 qc.1.1, hc1.2.append hkl.len.2 qc.1.2⟩, hsh1.append hkl.len.2 qc.2⟩, ?_⟩;intro U' j args ρ hK hM hall ha;obtain ⟨r, b0, hok⟩ := hval 0 t v rfl rfl;have hx1 : k1.length = x1.length := hkl.len.2;simp only [E3] at ha;split at ha
     ·rename_i d0 k1' hd h1';rw [h1] at h1';cases h1';have hu := OK.und (U := U) hE hd;clear ih;split at ha
      ·rename_i rr hrr
       have tail := q2 U' (j + k1.length) rr ρ hK hM (fun i hi => by
        have := hall (x1.length + i) (by simp only [List.length_append]; omega)
        rw [show j + k1.length + i = j + (x1.length + i) by omega, this]
        simp [List.getD_eq_getElem?_getD, List.getElem?_append_right]) hrr
       have head := IV (U := U') ρ k1 v.cells.toList x1 j (fun i hi => by
        have := hall i (by simp only [List.length_append]; omega)
        rw [this];simp [List.getD_eq_getElem?_getD, List.getElem?_append_left hi]) (by rw [hK, hM]; exact hkl)
       split at ha
       ·rename_i hs;cases ha;refine VL.cons ?_ tail;cases d0 <;> simp [IC] at hs
        unfold Value.okWide at hok;rw [hu] at hok;obtain ⟨cs', rfl, _⟩ := hok;exact .agg _ cs'.toList head.1 head.2
       ·rename_i hs;split at ha
        ·rename_i a hsym;cases ha;refine VL.cons ?_ tail;rw [hsym] at head
         have hv1 : v.cells.toList = [v] := by
          cases v <;> first | rfl | skip
          rename_i cs'
          exfalso
          unfold Value.okWide at hok;rw [hu] at hok;obtain ⟨_, _, _, h1⟩ := kinds_size h1;rw [hd] at h1;cases d0 <;> simp [IC] at hs <;> first | (cases h1; done) | skip
          all_goals simp [Cell.okWide, Cell.ok, hu] at hok
         rw [hv1] at head;obtain ⟨v', r', e1, e2, _⟩ := head.cons_inv;cases e1;exact e2
        ·cases ha
      ·cases ha
     ·cases ha
    ·cases hk
theorem Tq [U : Unk] (w : World) : HR ⟨fun _ => none, FU w⟩ (T.nil : T Aj).get w := by
 refine ⟨fun b base h => (by cases h), fun b base x h => (by cases h), fun b b' base base' _ h => (by cases h), fun k arr h => ?_, fun k arr b base _ h => (by cases h)⟩
 simp only [FU] at h;split at h
 ·rename_i c e fz hc;cases h;exact ⟨e, fz, hc⟩
 ·cases h
end
theorem I3 {H : Type} {enc : TypeId × Value → H} {P : Program} {w : World} {base : Nat} {sp : Nat → Bool} {held : Bool} : ∀ {ts : List TypeId} {vs : List Value} {ds : List (DataW H)} {ps : List MemPlace}, DataW.TrodAll enc P w base sp held ts vs ds ps → ds.length = ts.length
 | [], [], [], _, _ => rfl
 | _ :: _, _ :: _, _ :: _, _, ⟨_, _, _, h, _⟩ => by simp [I3 h]
 | [], _ :: _, _, _, h => by simp [DataW.TrodAll] at h
 | [], [], _ :: _, _, h => by simp [DataW.TrodAll] at h
 | _ :: _, [], _, _, h => by simp [DataW.TrodAll] at h
 | _ :: _, _ :: _, [], _, h => by simp [DataW.TrodAll] at h
theorem GF {H : Type} {enc : TypeId × Value → H} {P : Program} (hl : laidOutB P = true) {W W' : World} (hb : Below W.heap.size W W') : ∀ {ts : List TypeId} {vs : List Value} {ds : List (DataW H)} {ps : List MemPlace},
  (∀ t ∈ ts, P.readableRec t = true ∧ t < P.types.size) → DataW.TrodAll enc P W 0 (fun _ => true) true ts vs ds ps → (∀ x ∈ ps, x.block < W.heap.size) → DataW.TrodAll enc P W' 0 (fun b => decide (b < W.heap.size)) true ts vs ds ps
 | [], [], [], _, _, h, _ => h
 | t :: ts, v :: vs, d :: ds, ps, hr, ⟨p, q, h1, h2, he⟩, hlt => by
  subst he;exact ⟨p, q, Below.trod hl (hr t (by simp)).1 (hr t (by simp)).2 h1 hb (fun x hx => hlt x (by simp [hx])), GF hl hb (fun t ht => hr t (by simp [ht])) h2 (fun x hx => hlt x (by simp [hx])), rfl⟩
 | [], _ :: _, _, _, _, h, _ => by simp [DataW.TrodAll] at h
 | [], [], _ :: _, _, _, h, _ => by simp [DataW.TrodAll] at h
 | _ :: _, [], _, _, _, h, _ => by simp [DataW.TrodAll] at h
 | _ :: _, _ :: _, [], _, _, h, _ => by simp [DataW.TrodAll] at h
end Go.AE
namespace Go.AE
def BH : Code → Option Nat
 | .region id _ _ => some id
 | .seq a b => match BH a with
  | some i => some i
  | none => BH b
 | .cond _ a b => match BH a with
  | some i => some i
  | none => BH b
 | .block _ b => BH b
 | .loop b => BH b
 | .scope b => BH b
 | _ => none
def QD (keys : List Nat) (c : Code) : Bool := match BH c with
 | some i => Ln i keys
 | none => false
def XZ (keys : List Nat) (s : AS) : Bool :=
 match s.cs, s.fr.mode, s.fr.todo with
 | [], .run, .code (.loop b) :: _ => QD keys b
 | [], .run, .inLoop b :: _ => QD keys b
 | _, _, _ => false
def LL [Facts] (E : Env) (f : Nat) : Ask → Aa → Option (Bool × AV × Aa) := fun a h => match a with
 | .enter g args => match K4 E g args h with
  | some r => some r
  | none => match Bu E g args .normal with
   | some fr => Fs E f fr.fn true { fr, cs := [], h }
   | none => none
 | .round l args => match FqQ l args h with
  | some fr => Fs E f fr.fn true { fr, cs := [], h }
  | none => none
def ZB : AV → Option SB
 | .sb _ e => some e
 | _ => none
def orE (a b : Option SB) : Option SB := match a with
 | some x => some x
 | none => b
def ask [U : Facts] (e : SB) : Option SB := match AR U.facts e with
 | none => some e
 | some _ => none
def OY [Facts] (i n : SE) : Option SB := orE (ask (.lss i (.c 0))) (ask (.lss i n))
def Ik [Facts] (θ : List SE) : List (SB × Bool) → Option SB
 | [] => none
 | (e, _) :: r => orE (ask (e.inst θ)) (Ik θ r)
def TU [Facts] (E : Env) (f : FuncId) (args : List AV) (h : Aa) : List Sm → Option SB
 | [] => none
 | s :: r => match Nat.beq s.f f with
  | true => match NX E s args h with
   | (args1, h0) => match AP E s.pre 0 (FV E s.pre h0 (D8 s.args args1 ⟨.nil, .nil⟩)) h0 with
    | (m, h1) => orE (Ik (Gy m.v 0 s.nv) s.facts) (TU E f args h r)
  | false => TU E f args h r
inductive Xx where
 | ask (e : SB)
 | no
 | free
 deriving Inhabited
def Tf : Obs → Bool
 | [] => true
 | (a, .bc true) :: r => a.isB && Tf r
 | _ => false
def QG [Facts] : Obs → Option SB
 | [] => none
 | (a, _) :: r => orE (ask a) (QG r)
def PN [Facts] (E : Env) (f : FuncId) (args : List AV) (h : Aa) : List Sm → Xx
  | [] => .free
  | s :: r => match Nat.beq s.f f with
    | true => match NX E s args h with
     | (args1, h0) => match AP E s.pre 0 (FV E s.pre h0 (D8 s.args args1 ⟨.nil, .nil⟩)) h0 with
      | (m, h1) => match DA (Ho (Gy m.v 0 s.nv) (HT m.b 0 s.pre.length) s.args args1) (Ef E (Gy m.v 0 s.nv) (HT m.b 0 s.pre.length) h1 s.pre (HT m.b 0 s.pre.length)) with
        | some o => match Tf o with
          | true => match orE (QG o) (Ik (Gy m.v 0 s.nv) s.facts) with
            | some e => .ask e
            | none => match PN E f args h r with
              | .free => .no
              | x => x
          | false => PN E f args h r
        | none => PN E f args h r
    | false => PN E f args h r
def HA [Facts] (h : Aa) : AV → Option SB
 | .asl b _ n _ => match h.blk.get b with
  | some (.arr _ y) => match JJ n y with
   | true => none
   | false => ask (.eql n (.lenL y))
  | _ => none
 | _ => none
def Qv [Facts] (E : Env) (ts : List TypeId) (args : List AV) (h : Aa) : Option SB :=
 match ts, args with
 | t :: _, [s, x] => match E.desc t with
  | some (.slice e) => match E.kinds e with
   | some ks => orE (orE (HA h s) (HA h x)) <| match Rz e ks (Fm E e x (Fm E e s h)) s with
    | some (ys, _, _) => match W1 e ks (Fm E e x (Fm E e s h)) ys x with
     | some (_, m) => orE (ask (.lss (.lenL ys) (.c 1073741824))) (ask (.lss m (.c 1048576)))
     | none => none
    | none => none
   | none => none
  | _ => none
 | _, _ => none
def MW [Facts] (mx : Bool) : SE → List AV → Option SB
 | _, [] => none
 | x, y :: r => match toI y with
  | some (_, b) => match (match mx with | true => AR Facts.facts (.lss x b) | false => AR Facts.facts (.lss b x)) with
   | some true => MW mx b r
   | some false => MW mx x r
   | none => some (match mx with | true => .lss x b | false => .lss b x)
  | none => none
def Ov [Facts] (mx : Bool) : List AV → Option SB
 | y :: r => match toI y with
  | some (_, a) => MW mx a r
  | none => none
 | [] => none
def Rb [Facts] (E : Env) (t : TypeId) (k : AV) : List AO → Option SB
 | [] => none
 | e :: r => match eqK E t k e.key with
  | some true => none
  | some false => Rb E t k r
  | none => G8 E 10000 t k e.key
def UG [Facts] (E : Env) (t : TypeId) (m k : AV) (h : Aa) : Option SB :=
 match OS E t, m with
 | some (kt, vt, kks, vks), .map r => match Wp kt vt kks vks (h.blk.get r), Vf kks k with
  | some x, some kr => ask (.lss (.mIdx kks x kr) (.c 0))
  | _, _ => none
 | _, _ => none
def Tz [Facts] (n : SE) : Option SE → Option SE → Option SB
 | some l, some u => orE (ask (.lss l (.c 0))) (orE (ask (.lss u l)) (ask (.lss n u)))
 | _, _ => none
def S7 [U : Facts] (e : SE) : Nat → Nat → Option SB
 | 0, _ => none
 | n + 1, j => match AR U.facts (.eql e (.c j)) with
  | some true => none
  | some false => S7 e n (j + 1)
  | none => some (.eql e (.c j))
def Hj [Facts] (n : Nat) : AV → Option SB
 | .si _ e => match Nat.ble n 64 with
  | true => S7 e n 0
  | false => none
 | _ => none
def HG [Facts] (n : Nat) : Option AV → Option SB
 | some a => Hj n a
 | none => none
def S0 [U : Facts] (E : Env) (t : TypeId) (d x : AV) (h : Aa) : Option SB :=
 match E.desc t, d with
 | some (.slice e), .slice _ _ n _ => match Pj e h x with
  | some y => match AR U.facts (.lss (.lenL y) (.c n)) with
   | some true => Hj n (.si .i64 (.lenL y))
   | some false => none
   | none => some (.lss (.lenL y) (.c n))
  | none => HA h x
 | _, _ => none
def LE [Facts] : SE → Option SB
 | .strc _ _ => none
 | e => ask (.lss (.lenS e) (.c 4611686018427387904))
def MB (E : Env) (t : TypeId) : Nat := match E.desc t with
 | some (.array n _) => n
 | _ => 0
def Yu [Facts] (E : Env) (tmps : T AV) (h : Aa) (op : Op) : Option SB :=
 match op with
 | .pick c _ _ => ZB (Ag tmps c)
 | .binOp .add _ x y _ => match O0 (Ag tmps x), O0 (Ag tmps y) with
  | some a, some b => orE (LE a) (LE b)
  | _, _ => none
 | .binOp _ _ x y _ => match Ag tmps x, Ag tmps y with
  | .sb _ a, .sb _ b => orE (ask a) (ask b)
  | _, .si _ b => ask (.eql b (.c 0))
  | _, _ => none
 | .makeSlice _ l _ => match Ag tmps l with
  | .si _ n => orE (ask (.lss n (.c 0))) (ask (.lss n (.c 1048577)))
  | _ => none
 | .indexAddr _ x i => match Ag tmps x, toI (Ag tmps i) with
  | .dat _ y, some (_, ie) => OY ie (.lenL (Cd y))
  | .asl _ _ n _, some (_, ie) => OY ie n
  | .slice _ _ n _, _ => Hj n (Ag tmps i)
  | .ptr _ _, _ => match op with
   | .indexAddr t _ _ => Hj (MB E t) (Ag tmps i)
   | _ => none
  | _, _ => none
 | .load _ a => match Ag tmps a with
  | .aptr b _ i _ => match h.blk.get b with
   | some (.arr _ y) => OY i (.lenL (Cd y))
   | _ => none
  | _ => none
 | .store _ a _ => match Ag tmps a with
  | .aptr b _ i _ => match h.blk.get b with
   | some (.arr _ y) => OY i (.lenL (Cd y))
   | _ => none
  | _ => none
 | .index _ x i => match Ag tmps x, toI (Ag tmps i) with
  | .ss y, some (_, ie) => OY ie (.lenS y)
  | .agg _, _ => match op with
   | .index t _ _ => Hj (MB E t) (Ag tmps i)
   | _ => none
  | _, _ => none
 | .convert _ _ x => HA h (Ag tmps x)
 | .slice _ x lo hi _ => match Ag tmps x with
  | .dat _ y => Tz (.lenL y) (Gv (.c 0) (A6 tmps lo)) (Gv (.lenL y) (A6 tmps hi))
  | .ss y => Tz (.lenS y) (Gv (.c 0) (A6 tmps lo)) (Gv (.lenS y) (A6 tmps hi))
  | .asl b es n nl => orE (HA h (.asl b es n nl)) (match h.blk.get b with
   | some (.arr _ y) => Tz (.lenL y) (Gv (.c 0) (A6 tmps lo)) (Gv (.lenL y) (A6 tmps hi))
   | _ => none)
  | .slice _ _ n _ => orE (HG (n + 1) (A6 tmps lo)) (HG (n + 1) (A6 tmps hi))
  | .ptr _ _ => match op with
   | .slice t _ _ _ _ => orE (HG (MB E t + 1) (A6 tmps lo)) (HG (MB E t + 1) (A6 tmps hi))
   | _ => none
  | _ => none
 | .lookup t m k _ => match E.desc t, Ag tmps m with
  | some (.map kt _), .map r => match h.blk.get r with
   | some (.map es _) => Rb E kt (Ag tmps k) es
   | some (.dmap _ _ _) => UG E t (Ag tmps m) (Ag tmps k) h
   | _ => none
  | _, _ => none
 | .mapUpdate t m k _ => match TZ (Ag tmps k) || gX (XT h (Ag tmps m)) with
  | true => UG E t (Ag tmps m) (Ag tmps k) h
  | false => none
 | .call c => match c.callee with
  | .builtin .max => Ov true (c.args.toList.map (Ag tmps))
  | .builtin .min => Ov false (c.args.toList.map (Ag tmps))
  | .builtin .delete => match c.argTypes.toList, c.args.toList.map (Ag tmps) with
   | t :: _, [m, k] => match JA E t m k h with
    | some _ => none
    | none => UG E t m k h
   | _, _ => none
  | .builtin .copy => match c.argTypes.toList, c.args.toList.map (Ag tmps) with
   | t :: _, [d, x] => match Ru E t d x h with
    | some _ => none
    | none => S0 E t d x h
   | _, _ => none
  | .builtin .append => Qv E c.argTypes.toList (c.args.toList.map (Ag tmps)) h
  | .builtin _ => none
  | _ => match aop E tmps h op with
   | .enter f args _ => TU E f args h E.sms
   | _ => none
 | _ => none
def Ur [Facts] (E : Env) (s : AS) : Xx :=
 match E.sms.isEmpty with
 | true => .free
 | false => match s.fr.mode, s.fr.todo with
  | .run, .ops all (o :: _) :: _ => match JM o.op with
   | true => .free
   | false => match Dj all o s.fr.tmps with
    | some true => match aop E s.fr.tmps s.h o.op with
     | .enter f args _ => PN E f args s.h E.sms
     | _ => .free
    | _ => .free
  | .run, .code (.rangeFunc f params assign body) :: k => match Gr E s f params.toList assign body k with
   | some (g, args, h3, _) => PN E g args h3 E.sms
   | none => .free
  | _, _ => .free
def R6 (all : Array Oper) (o : Oper) (tmps : T AV) : Option SB := match o.guard with
 | some (j, _) => match all.toList[j]? with
  | some g => match g.dst with
   | some d => match tmps.get d with
    | some v => ZB v
    | none => none
   | none => none
  | none => none
 | none => none
def Xh [Facts] (E : Env) (all : Array Oper) (o : Oper) (tmps : T AV) (h : Aa) : Option SB :=
 match Dj all o tmps with
 | none => R6 all o tmps
 | some _ => Yu E tmps h o.op
mutual
def Ra [Facts] (E : Env) : Nat → AS → Option SB
 | 0, _ => none
 | n + 1, s => match s.fr.todo with
  | .code (.cond c _ _) :: _ => ZB (Ag s.fr.tmps c)
  | .ops all (o :: _) :: _ => Xh E all o s.fr.tmps s.h
  | .code (.region _ ops true) :: _ => N3 E n ops s.fr.nt ops.toList [] s.fr.tmps s.h
  | _ => none
def JK [Facts] (E : Env) : Nat → AS → Option SB
 | 0, _ => none
 | n + 1, s => match T9 E s with
  | some s' => JK E n s'
  | none => match Ur E s with
   | .ask e => some e
   | .no => none
   | .free => match Fz E s with
    | .next s' => JK E n s'
    | .draw s ops k => match CW E (LL E n) ops s.fr.nt ops.toList [] s.fr.tmps s.h with
     | some (none, tmps, h) => JK E n { s with fr := { s.fr with tmps, todo := k }, h }
     | _ => Ra E n s
    | _ => Ra E n s
def N3 [Facts] (E : Env) : Nat → Array Oper → Nat → List Oper → List Rc → T AV → Aa → Option SB
 | 0, _, _, _, _, _, _ => none
 | _ + 1, _, _, [], _, _, _ => none
 | n + 1, all, nt, o :: rest, recs, tmps, h => match FI E (LL E n) all o (BQ tmps (CU all o)) h with
  | some d => match J0 nt tmps o.dst d.v with
   | some tmps' => N3 E n all nt rest recs tmps' (Bf h d.g)
   | none => none
  | none => match Xh E all o tmps h with
   | some e => some e
   | none => match aop E tmps h o.op with
    | .enter f args _ => match PN E f args h E.sms with
     | .ask e => some e
     | .no => none
     | .free => match Bu E f args .normal with
      | some fr => JK E n { fr, cs := [], h }
      | none => none
    | _ => none
end
inductive WA where
 | cut (F : List (SB × Bool)) (s : AS)
 | done (F : List (SB × Bool)) (v : AV) (h : Aa)
 | stuck (F : List (SB × Bool))
 deriving Inhabited
def BF (V : Val) (F : List (SB × Bool)) : Prop := ∀ e b, (e, b) ∈ F → Ad V e = b
def Bg (ρ : Ren) (n : Nat) : Prop := ∀ b, n ≤ b → ρ b = none
@[reducible] def Bc (v : Vals) (F : List (SB × Bool)) (h : BF v.V F) : Unk := { facts := F, toVals := v, ok := h }
theorem Bg.ext [v : Vals] {ρ σ : Ren} {h h' : Aa} {w w' : World} (hf : Bg ρ h.nx) (e : Ext ρ σ h h' w w') : Bg σ h'.nx := by
 intro b hb;have := e.nx;cases hs : σ b with
 | none => rfl
 | some base =>
  rcases e.new b base hs with q | ⟨_, q, _⟩
  ·rw [hf b (by omega)] at q; cases q
  ·omega
def WA.Good [v : Vals] (P : Program) (ρ : Ren) (s : AS) (c : Frame) (ccs : List Frame) (w : World) (base : List Frame) : WA → Prop
 | .cut F s' => BF v.V F ∧ s'.cs = [] ∧ ∃ σ c' w', Steps P (lone c (ccs ++ base) w) (lone c' base w') ∧ SR σ s' c' [] w' ∧ Ext ρ σ s.h s'.h w w'
 | .done F x h => BF v.V F ∧ ∃ σ cf v' w1 w', Steps P (lone c (ccs ++ base) w) (lone cf base w1) ∧ Nj P cf w1 true v' w' ∧ VR σ x v' ∧ HR σ h.blk.get w' ∧ Ext ρ σ s.h h w w'
 | .stuck F => BF v.V F
theorem WA.Good.pre [v : Vals] {P : Program} {ρ σ : Ren} {s s' : AS} {c c' : Frame} {ccs ccs' : List Frame} {w w' : World} {base : List Frame} {l : WA} (hs : Steps P (lone c (ccs ++ base) w) (lone c' (ccs' ++ base) w')) (he : Ext ρ σ s.h s'.h w w') (hf : Bg ρ s.h.nx)
  (h : l.Good P σ s' c' ccs' w' base) : l.Good P ρ s c ccs w base := by
 cases l with
 | cut F s2 =>
  obtain ⟨h1, h2, τ, c2, w2, q1, q2, q3⟩ := h;exact ⟨h1, h2, τ, c2, w2, Steps.trans hs q1, q2, he.trans q3 (fun b hb _ => hf b hb)⟩
 | done F x h2 =>
  obtain ⟨h1, τ, cf, v', w1, w2, q1, q2, q3, q4, q5⟩ := h;exact ⟨h1, τ, cf, v', w1, w2, Steps.trans hs q1, q2, q3, q4, he.trans q5 (fun b hb _ => hf b hb)⟩
 | stuck F => exact h
theorem U3 {U : Unk} {E : Env} (hE : OK E) (hO : Af E U.V.fn) (n : Nat) : Lb E (LL E n) := by
 have hC : ∀ (fr : AF) (g g' : Aa) (ok : Bool) (v : AV) (ρ : Ren) (cf : Frame) (w : World), FrR ρ fr cf → HR ρ g.blk.get w → WF g → Fs E n fr.fn true { fr, cs := [], h := g } = some (ok, v, g') → A9 ρ g.nx g'.nx →
   ∀ (c0 : Frame) (base : List Frame), ∃ σ v' w', BS E.P (lone cf (c0 :: base) w) c0 base ok v' w' ∧ VR σ v v' ∧ HR σ g'.blk.get w' ∧ Ext ρ σ g g' w w' := by
  intro fr g g' ok v ρ cf w hfr hr hwf hx hfree c0 base;obtain ⟨σ, cf', v', w1, w', q1, q2, q3, q4, q5, q6, q7⟩ := Tt hE hO n fr.fn true { fr, cs := [], h := g } ρ cf [] w ok v g' ⟨hfr, .nil, hr⟩ hwf hx hfree (c0 :: base);refine ⟨σ, v', w', ?_, q5, q6, q7⟩;have := Steps.trans q1 (Steps.one (q4.back c0 base));cases ok <;> exact this
 refine ⟨?_, ?_⟩
 ·intro f' args args' g g' ok v ρ w ha hr hwf hx hfree;simp only [LL] at hx;split at hx
  ·rename_i r hfind;cases hx;exact H5 hE hO hfind ha hr hwf hfree
  ·split at hx
   ·rename_i fr hfr;exact hC fr g g' ok v ρ _ w (C7 hE hfr ha) hr hwf hx hfree
   ·cases hx
 ·intro l args g g' ok v ρ w hr hwf hx hfree;simp only [LL] at hx;split at hx
  ·rename_i fr hfr;exact ⟨fr, hfr, fun cf hcf => hC fr g g' ok v ρ cf w hcf hr hwf hx hfree⟩
  ·cases hx
end Go.AE
namespace Go.AE
structure Cut where
 key : Option Nat
 fn : FuncId
 nt : Nat
 nv : Nat
 todo : List AI
 tmps : T AV
 pre : List (Option Aj)
 facts : List (SB × Bool)
 res : AV
 post : List (Option Aj)
 ent : Nat := 0
 defs : List Nat := []
 deriving Inhabited
def Ip : List Nat → List AD
 | [] => []
 | d :: r => { fn := none, coll := d, captured := [], args := [] } :: Ip r
def M6 (β : List Nat) : List Nat → List AD → Bool
 | [], [] => true
 | d :: r, a :: l => a.fn.isNone && toB β d a.coll && M6 β r l
 | _, _ => false
def Tp : List (Option Aj) → Nat → Nat → T Nat → T Nat
 | some _ :: r, i, n + 1, t => Tp r (i + 1) n (t.set i i)
 | none :: r, i, n + 1, t => Tp r (i + 1) n t
 | _, _, _, t => t
def Cut.fr (c : Cut) : AF := { fn := c.fn, nt := c.nt, tmps := c.tmps, todo := c.todo, defers := Ip c.defs, mode := .run, kind := .normal, round := none }
def Cut.h (c : Cut) : Aa := { blk := A2 c.pre, nx := c.pre.length, log := [] }
def Cut.st (c : Cut) : AS := { fr := c.fr, cs := [], h := c.h }
def Cut.h' (c : Cut) : Aa := { blk := A2 c.post, nx := c.post.length, log := List.range c.pre.length }
def NO : List Nat → List AD → Bd → Bd
 | d :: r, a :: l, m => NO r l (m.blk d a.coll)
 | _, _, m => m
def NE (c : Cut) (s : AS) : Bd := NO c.defs s.fr.defers (NQ c.tmps s.fr.tmps ⟨.nil, Tp c.pre 0 c.ent .nil⟩)
def Cut.At (P : Program) (G : Nat → D → D) (c : Cut) (V : Val) : Prop :=
 ∀ (v : Vals), v.V = V → v.K = (Env.of P).kinds → V.fn = G → BF V c.facts → ∀ (ρ : Ren) (cf : Frame) (w : World), FrR ρ c.fr cf → HR ρ c.h.blk.get w → Bg ρ c.pre.length →
  ∀ (c0 : Frame) (base : List Frame), ∃ σ v' w', BS P (lone cf (c0 :: base) w) c0 base true v' w' ∧ VR σ c.res v' ∧ HR σ c.h'.blk.get w' ∧ Ext ρ σ c.h c.h' w w'
structure VC where
 F : List (SB × Bool)
 obs : Obs
 rec_ : Option (Nat × List SE × List AI)
 deriving Inhabited
def idT : Nat → T Nat → T Nat
 | 0, t => t
 | n + 1, t => idT n (t.set n n)
def Rr : Nat → Nat → List Nat → Bool
 | _, 0, _ => true
 | i, n + 1, b :: r => Nat.beq b i && Rr (i + 1) n r
 | _, _ + 1, [] => false
def MT : List (Option Aj) → Bool
 | [] => true
 | some _ :: r => MT r
 | none :: _ => false
def QY [Facts] (E : Env) (c : Cut) (v : AV) (h : Aa) : Option Obs :=
 match AP E c.post 0 (FV E c.post h (FT c.res v ⟨.nil, idT c.pre.length .nil⟩)) h with
 | (m, h1) =>
  let β := HT m.b 0 c.post.length
  D1 (Rr 0 c.pre.length β && (Fd c.post β && MT (c.post.drop c.pre.length)) && Nat.ble c.pre.length c.post.length) (DA (CN [] β c.res v) (Ef E [] β h1 c.post β))
def Rd : List AI → Bool
 | [] => true
 | .inRange _ :: _ => false
 | .endRange _ :: _ => false
 | .rest :: _ => false
 | .dead :: _ => false
 | .beginRound :: _ => false
 | _ :: r => Rd r
def HP.isRun : HP → Bool
 | .run => true
 | _ => false
def US : CallKind → Bool
 | .normal => true
 | _ => false
def HU (θ : List SE) : List (SB × Bool) → Obs
 | [] => []
 | (e, b) :: r => (e.inst θ, .bc b) :: HU θ r
def TY [Facts] (E : Env) (c : Cut) (s : AS) : Option (List SE × AV × Aa × Obs) :=
 match AP E c.pre 0 (FV E c.pre s.h (NE c s)) s.h with
 | (m, h1) =>
  let θ := Gy m.v 0 c.nv
  let β := HT m.b 0 c.pre.length
  match EW β && NK h1.nx β && Nat.ble c.pre.length c.post.length && Nat.beq s.fr.fn c.fn && Nat.beq s.fr.nt c.nt && M6 β c.defs s.fr.defers && s.fr.mode.isRun && US s.fr.kind && s.fr.round.isNone && Rd s.fr.todo with
  | true => match DA (leT θ β c.tmps s.fr.tmps) (Ef E θ β h1 c.pre β), DB θ (β ++ C8 h1.nx (c.post.length - c.pre.length)) c.post (β ++ C8 h1.nx (c.post.length - c.pre.length)) h1.blk with
   | some o, some t => some (θ, c.res.inst θ (β ++ C8 h1.nx (c.post.length - c.pre.length)), { blk := t, nx := h1.nx + (c.post.length - c.pre.length), log := β ++ h1.log }, o ++ HU θ c.facts)
   | _, _ => none
  | false => none
theorem J5 : ∀ {l : List (Option Aj)}, MT l = true → ∀ i, i < l.length → ∃ x, l[i]? = some (some x)
 | [], _, i, h => by simp at h
 | some x :: r, h, i, hi => by
  cases i with
  | zero => exact ⟨x, rfl⟩
  | succ i => simpa using J5 (l := r) h i (by simpa using hi)
 | none :: _, h, _, _ => by cases h
theorem OD : ∀ (n i : Nat) (l : List Nat), Rr i n l = true → ∀ j, j < n → l[j]? = some (i + j)
 | 0, i, l, h, j, hj => by omega
 | n + 1, i, [], h, j, hj => by cases h
 | n + 1, i, b :: r, h, j, hj => by
  simp only [Rr, Bool.and_eq_true] at h;cases j with
  | zero => simp [Nat.eq_of_beq_eq_true h.1]
  | succ j =>
   have := OD n (i + 1) r h.2 j (by omega)
   simp only [List.getElem?_cons_succ, this]
   congr 1; omega
theorem Lc {V : Val} {θ : List SE} : ∀ {l : List (SB × Bool)}, (HU θ l).holds V → BF (V.inst θ) l
 | [], h, e, b, hm => by cases hm
 | (x, c) :: r, h, e, b, hm => by
  rcases List.mem_cons.1 hm with q | q
  ·cases q;have := h (x.inst θ) (.bc c) (by simp [HU])
   unfold Ad;rw [← BP, this]; rfl
  ·exact Lc (fun a b' h' => h a b' (by simp [HU, h'])) e b q
theorem OJ {v u : Vals} {ρ σ : Ren} : ∀ {l : List AI} {l' : List Item}, Rd l = true → @IL v ρ l l' → @IL u σ l l'
 | [], l', h, hi => by cases hi; exact .nil
 | a :: r, l', h, hi => by
  cases hi with
  | cons ha hr =>
   cases ha <;> simp only [Rd, Bool.false_eq_true] at h <;> first | (cases h; done) | skip
   all_goals exact .cons (by constructor <;> assumption) (OJ h hr)
  | rest => cases h
theorem Mj {u v : Vals} {β : List Nat} {ρ : Ren} : ∀ {ds : List Nat} {l : List AD} {l' : List Deferred}, M6 β ds l = true → @DL u ρ l l' → @DL v (ρ.back β) (Ip ds) l'
 | [], [], [], _, _ => trivial
 | [], [], _ :: _, _, h => h.elim
 | d :: r, a :: l, [], _, h => h.elim
 | d :: r, a :: l, d' :: l', h, hd => by
  simp only [M6, Bool.and_eq_true] at h;obtain ⟨⟨h1, h2⟩, h3⟩ := h;have hn : a.fn = none := by cases hq : a.fn with | none => rfl | some => rw [hq] at h1; cases h1
  refine ⟨?_, Mj h3 hd.2⟩;have h4 := hd.1;unfold DR at h4 ⊢;rw [hn] at h4;obtain ⟨base, q1, q2⟩ := h4;exact ⟨base, by rw [Fv h2]; exact q1, q2⟩
 | [], _ :: _, _, h, _ => by cases h
 | _ :: _, [], _, h, _ => by cases h
section
variable {E : Env} {G : Nat → D → D} (hE : ∀ [U : Unk], U.K = (Env.of E.P).kinds → OK E) {v : Vals} (hK : v.K = (Env.of E.P).kinds)
include hE hK
theorem Uv {F : List (SB × Bool)} (hF : BF v.V F) {c : Cut} {x : AV} {v' : Value} {h : Aa} {ρ σ : Ren} {w w' : World} {o : Obs} (hx : @QY ⟨F⟩ E c x h = some o) (ho : o.holds v.V) (hv : VR σ x v') (hr : HR σ h.blk.get w') (hwf : WF h) (he : Ext ρ σ c.h h w w') (hfa : Bg ρ c.pre.length) :
  ∃ τ, VR τ c.res v' ∧ HR τ c.h'.blk.get w' ∧ Ext ρ τ c.h c.h' w w' := by
 have hEU : @OK (Bc v F hF) E := hE (U := Bc v F hF) hK;have hfaσ : Bg σ h.nx := Bg.ext (h := c.h) hfa he;unfold QY at hx;split at hx;rename_i m h1 hbd;obtain ⟨hc, hx⟩ := A5 hx;obtain ⟨o1, o2, hx1, hx2, rfl⟩ := BC hx;obtain ⟨ho1, ho2⟩ := Obs.append ho;generalize hβ : HT m.b 0 c.post.length = β at *;have e2 : (@AP ⟨F⟩ E c.post 0 (@FV ⟨F⟩ E c.post h (FT c.res x ⟨.nil, idT c.pre.length .nil⟩)) h).2 = h1 := by rw [hbd]
 obtain ⟨q1, q2, q3⟩ := Bq (U := Bc v F hF) (E := E) c.post 0 (@FV ⟨F⟩ E c.post h (FT c.res x ⟨.nil, idT c.pre.length .nil⟩)) h hr hwf (fun b b1 _ => hfaσ b b1)
 rw [e2] at q1 q2 q3;have he1 : Ext ρ σ c.h h1 w w' := he.trans q2 (fun b hb _ => hfa b hb)
 simp only [Bool.and_eq_true] at hc;obtain ⟨⟨hid, hnd, hall⟩, hlen⟩ := hc;have hid := OD _ _ _ hid;have hlen : c.pre.length ≤ c.post.length := Nat.le_of_ble_eq_true hlen;have hV : (Bc v F hF).V = (Bc v F hF).V.inst [] := rfl;have p1 := Ga (U := Bc v F hF) (W := Bc v F hF) hV rfl c.res x o1 v' hx1 ho1 hv;have p2 := HR.toPatL (U := Bc v F hF) (W := Bc v F hF) hV rfl hEU q1 hx2 ho2 hnd;obtain ⟨l1, l2⟩ := Df (U := Bc v F hF) (W := Bc v F hF) hV rfl c.post β o2 hx2 ho2;have hid0 : ∀ j, j < c.pre.length → β[j]? = some j := fun j hj => by have := hid j hj; simpa using this
 refine ⟨σ.back β, p1, p2, ⟨⟨fun b base hb => ?_, fun k a hk => he1.le.imm k a hk⟩, hlen, fun b base hb => ?_, he1.calm, he1.kept, ⟨List.range c.pre.length, by simp [Cut.h', Cut.h], fun b hb hr => ?_⟩, fun b hb => ?_, he1.imm⟩⟩
 ·have hlt : b < c.pre.length := by
   rcases Nat.lt_or_ge b c.pre.length with q | q
   ·exact q
   ·rw [hfa b q] at hb; cases hb
  show (β[b]?).bind σ.m = some base;rw [hid0 b hlt];exact he1.le.m b base hb
 ·have hb' : (β[b]?).bind σ.m = some base := hb;cases hc' : β[b]? with
  | none => rw [hc'] at hb'; cases hb'
  | some d =>
   rw [hc'] at hb';have hb2 : σ d = some base := hb';rcases he1.new d base hb2 with q | ⟨a1, a2, a3⟩
   ·have hlt : d < c.pre.length := by
     rcases Nat.lt_or_ge d c.pre.length with q' | q'
     ·exact q'
     ·rw [hfa d q'] at q; cases q
    rcases Nat.lt_or_ge b c.pre.length with q' | q'
    ·rw [hid0 b q'] at hc'; cases hc';exact .inl q
    ·have hbl := (List.getElem?_eq_some_iff.1 hc').1;have hbp : b < c.post.length := by omega
     obtain ⟨y, hy⟩ := J5 hall (b - c.pre.length) (by simp; omega)
     rw [List.getElem?_drop, show c.pre.length + (b - c.pre.length) = b by omega] at hy
     obtain ⟨d', z, _, a1, a2, _, _⟩ := l2 b y hy;rw [hc'] at a1; cases a1;refine .inr ⟨q', hbp, .inr ⟨d, base, q, ?_, rfl⟩⟩;rcases he1.live d (by rw [a2]; exact Option.some_ne_none _) with r | ⟨r, _⟩
     ·exact r
     ·have : c.pre.length ≤ d := r;omega
   ·have hge : c.pre.length ≤ b := by
     rcases Nat.lt_or_ge b c.pre.length with q' | q'
     ·rw [hid0 b q'] at hc'; cases hc';have : c.pre.length ≤ b := a1;omega
     ·exact q'
    have hlt := (List.getElem?_eq_some_iff.1 hc').1;exact .inr ⟨hge, by show b < c.post.length; omega, a3⟩
 ·have hb1 : c.pre.length ≤ b := by
   rcases Nat.lt_or_ge b c.pre.length with q | q
   ·exact absurd (List.mem_range.2 q) hb
   ·exact q
  have hb2 : c.post.length ≤ b := by
   rcases hr with q | q
   ·have : b < c.pre.length := q;omega
   ·exact q
  show (A2 c.post).get b = (A2 c.pre).get b;rw [BY, BY, List.getElem?_eq_none hb2, List.getElem?_eq_none hb1]
 ·have hb0 : (A2 c.post).get b ≠ none := hb;rw [BY] at hb0;cases hx : c.post[b]? with
  | none => rw [hx] at hb0; exact absurd rfl hb0
  | some ox =>
   cases ox with
   | none => rw [hx] at hb0; exact absurd rfl hb0
   | some y =>
    obtain ⟨d, z, _, a1, a2, _, _⟩ := l2 b y hx;rcases Nat.lt_or_ge b c.pre.length with q | q
    ·rw [hid0 b q] at a1; cases a1;rcases he1.live b (by rw [a2]; exact Option.some_ne_none _) with r | ⟨r, _⟩
     ·exact .inl r
     ·have : c.pre.length ≤ b := r;omega
    ·exact .inr ⟨q, (List.getElem?_eq_some_iff.1 hx).1⟩
end
structure VC.Holds (G : Nat → D → D) (Pre : Nat → Val → Prop) (μ : Nat → Val → Nat) (i : Nat) (V : Val) (vc : VC) : Prop where
 obs : vc.obs.holds V
 rec_ : ∀ j θ td, vc.rec_ = some (j, θ, td) → Pre j (V.inst θ) ∧ μ j (V.inst θ) < μ i V
theorem Ic (l : List (Option Aj)) (n : List Nat) : WF { blk := A2 l, nx := l.length, log := n } := by
 intro b hb;show (A2 l).get b = none;rw [BY, List.getElem?_eq_none hb]; rfl
def Cut.sm (c : Cut) (args : List AV) : Sm := { f := c.fn, nv := c.nv, args, pre := c.pre, facts := c.facts, res := c.res, post := c.post }
def D9 (E : Env) (f : FuncId) (args : List AV) : AF := match Bu E f args .normal with
 | some fr => fr
 | none => default
def KS (E : Env) (f : FuncId) (nv : Nat) (args : List AV) (pre : List (Option Aj)) (facts : List (SB × Bool)) (res : AV) (post : List (Option Aj)) : Cut :=
 { key := none, fn := f, nt := (D9 E f args).nt, nv, todo := (D9 E f args).todo, tmps := (D9 E f args).tmps, pre, facts, res, post }
theorem sm_ok {E : Env} {G : Nat → D → D} (hE : ∀ [U : Unk], U.K = (Env.of E.P).kinds → OK E) {f nv : Nat} {args : List AV} {pre : List (Option Aj)} {facts : List (SB × Bool)} {res : AV} {post : List (Option Aj)} (hf : (Bu E f args .normal).isSome = true)
  (h : ∀ V : Val, V.fn = G → BF V facts → (KS E f nv args pre facts res post).At E.P G V) : Sm.Valid E.P G { f, nv, args, pre, facts, res, post } := by
 intro U hK hG hfacts ρ w args' ha hr hfa c0 base;cases hq : Bu E f args .normal with
 | none => rw [hq] at hf; cases hf
 | some fr =>
  have hfr := C7 (hE hK) hq ha
  have e : (KS E f nv args pre facts res post).fr = fr := by
   unfold Bu at hq;split at hq
   ·rename_i fn hfn;split at hq
    ·rename_i c hc;cases hq;simp [Cut.fr, KS, D9, Bu, hfn, hc, Ip]
    ·cases hq
   ·cases hq
  exact h U.V hG hfacts U.toVals rfl hK hG hfacts ρ _ w (by rw [e]; exact hfr) hr hfa c0 base
inductive Tr (α : Type) where
 | leaf (a : α)
 | split (e : SB) (t f : Tr α)
 deriving Inhabited
inductive Lf where
 | cut (s : AS)
 | done (v : AV) (h : Aa)
 | stuck
 deriving Inhabited
def Lf.Good [v : Vals] (P : Program) (f0 : FuncId) (ρ : Ren) (s : AS) (c : Frame) (ccs : List Frame) (w : World) (base : List Frame) (F : List (SB × Bool)) : Lf → Prop
 | .cut s' => BF v.V F ∧ s'.cs = [] ∧ ∃ σ c' w', Steps P (lone c (ccs ++ base) w) (lone c' base w') ∧ SR σ s' c' [] w' ∧ Ext ρ σ s.h s'.h w w'
 | .done x h => BF v.V F ∧ ∃ σ cf v' w1 w', Steps P (lone c (ccs ++ base) w) (lone cf base w1) ∧ cf.fn = f0 ∧ cf.roundOf = none ∧ Nj P cf w1 true v' w' ∧ VR σ x v' ∧ HR σ h.blk.get w' ∧ Ext ρ σ s.h h w w'
 | .stuck => BF v.V F
theorem Lf.Good.pre [v : Vals] {P : Program} {f0 : FuncId} {ρ σ : Ren} {s s' : AS} {c c' : Frame} {ccs ccs' : List Frame} {w w' : World} {base : List Frame} {F : List (SB × Bool)} {l : Lf} (hs : Steps P (lone c (ccs ++ base) w) (lone c' (ccs' ++ base) w')) (he : Ext ρ σ s.h s'.h w w') (hf : Bg ρ s.h.nx)
  (h : l.Good P f0 σ s' c' ccs' w' base F) : l.Good P f0 ρ s c ccs w base F := by
 cases l with
 | cut s2 =>
  obtain ⟨h1, h2, τ, c2, w2, q1, q2, q3⟩ := h;exact ⟨h1, h2, τ, c2, w2, Steps.trans hs q1, q2, he.trans q3 (fun b hb _ => hf b hb)⟩
 | done x h2 =>
  obtain ⟨h1, τ, cf, v', w1, w2, q1, q2, q3, q4, q5, q6, q7⟩ := h;exact ⟨h1, τ, cf, v', w1, w2, Steps.trans hs q1, q2, q3, q4, q5, q6, he.trans q7 (fun b hb _ => hf b hb)⟩
 | stuck => exact h
def Oh (e : SB) : Option (Tr Lf) → Option (Tr Lf) → Option (Tr Lf)
 | some a, some b => some (.split e a b)
 | _, _ => none
def Tr.way {α : Type} (V : Val) : Tr α → List (SB × Bool) → α × List (SB × Bool)
 | .leaf a, F => (a, F)
 | .split e t f, F => match Ad V e with
  | true => t.way V ((e, true) :: F)
  | false => f.way V ((e, false) :: F)
def Tr.get {α : Type} (V : Val) : Tr α → α
 | .leaf a => a
 | .split e t f => match Ad V e with
  | true => t.get V
  | false => f.get V
def Xj (keys : List Nat) (s : AS) : Bool :=
 match s.cs, s.fr.mode, s.fr.todo with
 | [], .run, .code (.region id _ _) :: _ => Ln (id + 1000000) keys
 | _, _, _ => false
def GS (E : Env) (keys : List Nat) (f0 : FuncId) : Nat → List (SB × Bool) → AS → Option (Tr Lf)
 | 0, _, _ => none
 | n + 1, F, s =>
  let part (_ : Unit) : Option (Tr Lf) := match @Ra ⟨F⟩ E n s with
   | some e => match AR F e with
    | none => Oh e (GS E keys f0 n ((e, true) :: F) s) (GS E keys f0 n ((e, false) :: F) s)
    | some _ => some (.leaf .stuck)
   | none => some (.leaf .stuck)
  match @T9 ⟨F⟩ E s with
  | some s' => GS E keys f0 n F s'
  | none => match @Ur ⟨F⟩ E s with
  | .ask e => Oh e (GS E keys f0 n ((e, true) :: F) s) (GS E keys f0 n ((e, false) :: F) s)
  | .no => some (.leaf .stuck)
  | .free => match @Fz ⟨F⟩ E s with
   | .next s' => match XZ keys s with
    | true => some (.leaf (.cut s'))
    | false => match Xj keys s' with
     | true => some (.leaf (.cut s'))
     | false => GS E keys f0 n F s'
   | .done ok v h => match ok && s.fr.round.isNone && Nat.beq s.fr.fn f0 with
    | true => some (.leaf (.done v h))
    | false => some (.leaf .stuck)
   | .draw s2 ops k => match @CW ⟨F⟩ E (@LL ⟨F⟩ E n) ops s2.fr.nt ops.toList [] s2.fr.tmps s2.h with
    | some (none, tmps, h) => GS E keys f0 n F { s2 with fr := { s2.fr with tmps, todo := k }, h }
    | some (some _, _, _) => some (.leaf .stuck)
    | none => part ()
   | .bad _ => part ()
theorem VD {E : Env} {keys : List Nat} {f0 : FuncId} {G : Nat → D → D} (hE : ∀ [U : Unk], U.K = (Env.of E.P).kinds → OK E) (hO : Af E G) [v : Vals] (hK : v.K = (Env.of E.P).kinds) (hG : v.V.fn = G) (base : List Frame) :
  ∀ (n : Nat) (F : List (SB × Bool)) (s : AS) (t : Tr Lf), GS E keys f0 n F s = some t → BF v.V F → ∀ (ρ : Ren) (c : Frame) (ccs : List Frame) (w : World), SR ρ s c ccs w → WF s.h → Bg ρ s.h.nx → (t.way v.V F).1.Good E.P f0 ρ s c ccs w base (t.way v.V F).2 := by
 subst hG;intro n
 induction n with
 | zero => intro F s t h; cases h
 | succ n ih =>
  intro F s t hx hF ρ c ccs w hsr hwf hfa;have hEU : @OK (Bc v F hF) E := hE (U := Bc v F hF) hK;have hfr : ∀ m, A9 ρ s.h.nx m := fun m b hb _ => hfa b hb
  simp only [GS] at hx
  generalize hpart : (match @Ra ⟨F⟩ E n s with
   | some e => match AR F e with
    | none => Oh e (GS E keys f0 n ((e, true) :: F) s) (GS E keys f0 n ((e, false) :: F) s)
    | some _ => some (.leaf .stuck)
   | none => some (.leaf .stuck)) = pt at hx
  have hboth : ∀ e, Oh e (GS E keys f0 n ((e, true) :: F) s) (GS E keys f0 n ((e, false) :: F) s) = some t → (t.way v.V F).1.Good E.P f0 ρ s c ccs w base (t.way v.V F).2 := by
   intro e hq;unfold Oh at hq;split at hq
   ·rename_i a b ha hb;cases hq;simp only [Tr.way];cases he : Ad v.V e with
    | true =>
     exact ih _ _ _ ha (fun e' b' hm => by
      rcases List.mem_cons.1 hm with q | q
      ·cases q; exact he
      ·exact hF e' b' q) ρ c ccs w hsr hwf hfa
    | false =>
     exact ih _ _ _ hb (fun e' b' hm => by
      rcases List.mem_cons.1 hm with q | q
      ·cases q; exact he
      ·exact hF e' b' q) ρ c ccs w hsr hwf hfa
   ·cases hq
  have hpt : pt = some t → (t.way v.V F).1.Good E.P f0 ρ s c ccs w base (t.way v.V F).2 := by
   intro hq;subst hq;split at hpart
   ·rename_i e _;split at hpart
    ·exact hboth e hpart
    ·cases hpart; exact hF
   ·cases hpart; exact hF
  have go : ∀ (s' : AS) (σ : Ren) (c' : Frame) (ccs' : List Frame) (w1 : World), Steps E.P (lone c (ccs ++ base) w) (lone c' (ccs' ++ base) w1) → SR σ s' c' ccs' w1 → Ext ρ σ s.h s'.h w w1 → GS E keys f0 n F s' = some t → (t.way v.V F).1.Good E.P f0 ρ s c ccs w base (t.way v.V F).2 := by
   intro s' σ c' ccs' w1 h1 h2 h3 h4;exact (ih F s' t h4 hF σ c' ccs' w1 h2 (Ext.wf (U := Bc v F hF) h3 hwf) (hfa.ext h3)).pre h1 h3 hfa
  split at hx
  ·rename_i s' htop;obtain ⟨σ, cf', ccs', w', q1, q2, q3⟩ := Rh (U := Bc v F hF) hEU hO hsr hwf htop (hfr _) base;exact go s' σ cf' ccs' w' q1 q2 q3 hx
  split at hx
  ·exact hboth _ hx
  ·cases hx; exact hF
  ·split at hx
   ·rename_i s' hst;obtain ⟨σ, cf', ccs', w', q1, q2, q3⟩ := OL (U := Bc v F hF) (base := base) hEU hsr hst (hfr _);split at hx
    ·rename_i hcut;cases hx
     have hcs : s'.cs = [] := by
      unfold XZ at hcut;split at hcut
      ·rename_i e1 e2 e3;simp only [Fz, e2, e3] at hst;cases hst; exact e1
      ·rename_i e1 e2 e3;simp only [Fz, e2, e3] at hst;cases hst; exact e1
      ·cases hcut
     have hccs : ccs' = [] := by
      have := q2.cs;rw [hcs] at this;cases this; rfl
     subst hccs;exact ⟨hF, hcs, σ, cf', w', Steps.one q1, q2, q3⟩
    ·split at hx
     ·rename_i hreg;cases hx
      have hcs : s'.cs = [] := by
       unfold Xj at hreg;split at hreg
       ·assumption
       ·cases hreg
      have hccs : ccs' = [] := by
       have := q2.cs;rw [hcs] at this;cases this; rfl
      subst hccs;exact ⟨hF, hcs, σ, cf', w', Steps.one q1, q2, q3⟩
     ·exact go s' σ cf' ccs' w' (Steps.one q1) q2 q3 hx
   ·rename_i ok' v' h' hst;split at hx
    ·rename_i hb;cases hx;obtain ⟨rfl, x, w', q1, q2, q3, q4⟩ := KY (U := Bc v F hF) hEU hsr hst;obtain ⟨b0, b3⟩ := Av (U := Bc v F hF) hb;obtain ⟨b1, b2⟩ := Av (U := Bc v F hF) b0;subst b1;have hround := hsr.fr.round;rw [Option.isNone_iff_eq_none] at b2;rw [b2] at hround
     have hro : c.roundOf = none := by
      cases hz : c.roundOf with
      | none => rfl
      | some => rw [hz] at hround; exact hround.elim
     exact ⟨hF, ρ, c, x, w, w', Steps.refl _ _, hsr.fr.fn.trans (AA b3), hro, q4, q1, q2, q3⟩
    ·cases hx; exact hF
   ·rename_i s2 ops k hst;obtain ⟨rfl, hm, id, ht⟩ := GR (U := Bc v F hF) hst;split at hx
    ·rename_i tmps h1 hd;obtain ⟨σ, c', w', q1, q2, q3⟩ := M8 (U := Bc v F hF) hEU (U3 (U := Bc v F hF) hEU hO n) hsr hwf hm ht hd (hfr _) base;exact go _ σ c' ccs w' q1 q2 q3 hx
    ·cases hx; exact hF
    ·exact hpt hx
   ·exact hpt hx
def SE.fits (n m : Nat) : SE → Bool
 | .c _ => true
 | .var i => Nat.blt i n
 | .lenS a => a.fits n m
 | .lenL a => a.fits n m
 | .arith _ _ a b => a.fits n m && b.fits n m
 | .conv _ a => a.fits n m
 | .lss a b => a.fits n m && b.fits n m
 | .eql a b => a.fits n m && b.fits n m
 | .eqS a _ _ => a.fits n m
 | .eqSS a b => a.fits n m && b.fits n m
 | .isNil a => a.fits n m
 | .bc _ => true
 | .neg a => a.fits n m
 | .and a b => a.fits n m && b.fits n m
 | .nilIs a b => a.fits n m && b.fits n m
 | .strc _ _ => true
 | .strAt a b => a.fits n m && b.fits n m
 | .strCat a b => a.fits n m && b.fits n m
 | .strSub a b x => a.fits n m && b.fits n m && x.fits n m
 | .cell a i _ => a.fits n m && i.fits n m
 | .sel a _ => a.fits n m
 | .nilL => true
 | .emptyL => true
 | .snoc a r => a.fits n m && r.fits n m
 | .upd a i _ x => a.fits n m && i.fits n m && x.fits n m
 | .rep a b => a.fits n m && b.fits n m
 | .cat a b => a.fits n m && b.fits n m
 | .sub a b x => a.fits n m && b.fits n m && x.fits n m
 | .rnil => true
 | .rcons a b => a.fits n m && b.fits n m
 | .app f a => Nat.blt f m && a.fits n m
 | .bytes a => a.fits n m
 | .ofBytes a => a.fits n m
 | .mIdx _ a k => a.fits n m && k.fits n m
 | .rmv a i => a.fits n m && i.fits n m
structure Val.Alike (n m : Nat) (V W : Val) : Prop where
 d : ∀ i, i < n → V.d i = W.d i
 fn : ∀ i, i < m → V.fn i = W.fn i
theorem SE.fits_ok {n m : Nat} {V W : Val} (h : V.Alike n m W) : ∀ e : SE, e.fits n m = true → Ab V e = Ab W e := by
 intro e
 induction e <;> intro hf <;> (try simp only [SE.fits, Bool.and_eq_true] at hf) <;> simp only [Ab]
 case var i => exact h.d i (by simpa [Nat.blt_eq] using hf)
 case app f x ih => rw [ih hf.2, h.fn f (by simpa [Nat.blt_eq] using hf.1)]
 all_goals simp_all only [forall_const]
def gR (g : Nat) (st : SE) : SE → Bool
 | .app g' st' => Nat.beq g g' && st.same st'
 | _ => false
def A7 (g : Nat) (st : SE) (f : Nat → SE) : SE → SE
 | .sel a j => match gR g st a with
  | true => f j
  | false => .sel (A7 g st f a) j
 | .c n => .c n
 | .var i => .var i
 | .lenS a => .lenS (A7 g st f a)
 | .lenL a => .lenL (A7 g st f a)
 | .arith op k a b => .arith op k (A7 g st f a) (A7 g st f b)
 | .conv k a => .conv k (A7 g st f a)
 | .lss a b => .lss (A7 g st f a) (A7 g st f b)
 | .eql a b => .eql (A7 g st f a) (A7 g st f b)
 | .eqS a l b => .eqS (A7 g st f a) l b
 | .eqSS a b => .eqSS (A7 g st f a) (A7 g st f b)
 | .isNil a => .isNil (A7 g st f a)
 | .bc b => .bc b
 | .neg a => .neg (A7 g st f a)
 | .and a b => .and (A7 g st f a) (A7 g st f b)
 | .nilIs a b => .nilIs (A7 g st f a) (A7 g st f b)
 | .strc l b => .strc l b
 | .strAt a i => .strAt (A7 g st f a) (A7 g st f i)
 | .strCat a b => .strCat (A7 g st f a) (A7 g st f b)
 | .strSub a lo hi => .strSub (A7 g st f a) (A7 g st f lo) (A7 g st f hi)
 | .cell a i j => .cell (A7 g st f a) (A7 g st f i) j
 | .nilL => .nilL
 | .emptyL => .emptyL
 | .snoc a r => .snoc (A7 g st f a) (A7 g st f r)
 | .upd a i j x => .upd (A7 g st f a) (A7 g st f i) j (A7 g st f x)
 | .rep n r => .rep (A7 g st f n) (A7 g st f r)
 | .cat a b => .cat (A7 g st f a) (A7 g st f b)
 | .sub a lo hi => .sub (A7 g st f a) (A7 g st f lo) (A7 g st f hi)
 | .rnil => .rnil
 | .rcons x r => .rcons (A7 g st f x) (A7 g st f r)
 | .app h x => .app h (A7 g st f x)
 | .bytes a => .bytes (A7 g st f a)
 | .ofBytes a => .ofBytes (A7 g st f a)
 | .mIdx ks a k => .mIdx ks (A7 g st f a) (A7 g st f k)
 | .rmv a i => .rmv (A7 g st f a) (A7 g st f i)
theorem Q0 {V : Val} {g : Nat} {st : SE} {f : Nat → SE} (hf : ∀ j, Ab V (f j) = Ab V (.sel (.app g st) j)) : ∀ e : SE, Ab V (A7 g st f e) = Ab V e := by
 intro e
 induction e
 case sel a j ih =>
  simp only [A7];split
  ·rename_i h;rw [hf];cases a <;> simp only [gR, Bool.false_eq_true, Bool.and_eq_true] at h
   rw [AA h.1, SE.same_ok (U := Bz) h.2]
  ·simp only [Ab, ih]
 all_goals simp_all only [A7, Ab]
def EA (step : D → Option (D ⊕ D)) : Nat → D → Option D
 | 0, _ => none
 | n + 1, d => match step d with
  | none => none
  | some (.inr r) => some r
  | some (.inl d') => EA step n d'
theorem LO {step : D → Option (D ⊕ D)} : ∀ {n m : Nat} {d r s : D}, EA step n d = some r → EA step m d = some s → r = s
 | 0, _, _, _, _, h, _ => by cases h
 | _ + 1, 0, _, _, _, _, h => by cases h
 | n + 1, m + 1, d, r, s, h, k => by
  simp only [EA] at h k;split at h
  ·cases h
  ·rename_i x hx;rw [hx] at k;cases h; cases k; rfl
  ·rename_i d' hx;rw [hx] at k;exact LO h k
class Ap where
 f : (D → Option (D ⊕ D)) → D → D
 run : ∀ {step : D → Option (D ⊕ D)} {n : Nat} {d r : D}, EA step n d = some r → f step d = r
 or : ∀ (step : D → Option (D ⊕ D)) (d : D), f step d = .row [] ∨ ∃ n, EA step n d = some (f step d)
theorem UP : Nonempty Ap := by
 classical
 have key : ∀ (step : D → Option (D ⊕ D)) (d : D), ∃ r, (∀ n s, EA step n d = some s → r = s) ∧ (r = .row [] ∨ ∃ n, EA step n d = some r) := by
  intro step d;by_cases h : ∃ r n, EA step n d = some r
  ·obtain ⟨r, n, hr⟩ := h;exact ⟨r, fun m s hs => LO hr hs, .inr ⟨n, hr⟩⟩
  ·exact ⟨.row [], fun m s hs => absurd ⟨s, m, hs⟩ h, .inl rfl⟩
 exact ⟨⟨fun step d => Classical.choose (key step d), fun {step n d r} h => (Classical.choose_spec (key step d)).1 n r h, fun step d => (Classical.choose_spec (key step d)).2⟩⟩
section
variable [Ap]
def BZ (step : D → Option (D ⊕ D)) (d : D) : D := Ap.f step d
theorem DS {step : D → Option (D ⊕ D)} {n : Nat} {d r : D} (h : EA step n d = some r) : BZ step d = r := Ap.run h
theorem Ew (step : D → Option (D ⊕ D)) (d : D) : BZ step d = .row [] ∨ ∃ n, EA step n d = some (BZ step d) := Ap.or step d
theorem Ou {step : D → Option (D ⊕ D)} {d r : D} (h : step d = some (.inr r)) : BZ step d = r := DS (n := 1) (by simp [EA, h])
theorem Ok {step : D → Option (D ⊕ D)} {d d' : D} (h : step d = some (.inl d')) : BZ step d = BZ step d' := by
 rcases Ew step d' with q | ⟨n, hn⟩
 ·rcases Ew step d with q' | ⟨m, hm⟩
  ·rw [q, q']
  ·cases m with
   | zero => cases hm
   | succ m =>
    simp only [EA, h] at hm;exact (DS hm).symm
 ·exact DS (n := n + 1) (by simp only [EA, h]; exact hn)
end
structure Pt where
 key : Option Nat
 nt : Nat
 nv : Nat
 todo : List AI
 tmps : T AV
 pre : List (Option Aj)
 facts : List (SB × Bool)
 defs : List Nat := []
 deriving Inhabited
structure Sh where
 m : Nat
 res : AV
 post : List (Option Aj)
 keep : List Nat
 deriving Inhabited
structure Dec where
 g : Nat
 f : FuncId
 p : Nat
 pts : List Pt
 shs : List Sh
 deriving Inhabited
inductive Plf where
 | stuck
 | done (s : Nat) (parts : List SE)
 | next (j : Nat) (θ : List SE)
 deriving Inhabited
def Wb : List SE → SE
 | [] => .rnil
 | x :: r => .rcons x (Wb r)
def stE (i : Nat) (θ : List SE) : SE := .rcons (.c i) (Wb θ)
def CM : Nat → Nat → List SE
 | _, 0 => []
 | i, n + 1 => .var i :: CM (i + 1) n
def Nl (g j : Nat) (θ : List SE) (s : Nat) : SE := .eql (.sel (.app g (stE j θ)) 0) (.c (s + 1 : Nat))
theorem LI (V : Val) : ∀ l : List SE, Ab V (Wb l) = .row (l.map (Ab V))
 | [] => rfl
 | x :: r => by simp only [Wb, Ab, LI V r, D.cells, List.map_cons]
theorem HN (V : Val) (i : Nat) (l : List SE) : Ab V (stE i l) = .row (.int i :: l.map (Ab V)) := by
 simp only [stE, Ab, LI, D.cells]
theorem Fe (V : Val) : ∀ (n i : Nat), (CM i n).map (Ab V) = (List.range n).map fun j => V.d (i + j)
 | 0, i => rfl
 | n + 1, i => by
  simp only [CM, List.map_cons, Fe V n (i + 1), List.range_succ_eq_map, List.map_map];refine congr (congrArg _ ?_) ?_
  ·simp [Ab]
  ·apply List.map_congr_left; intro j _; show V.d (i + 1 + j) = V.d (i + (j + 1)); congr 1; omega
def ai (g : Nat) (st : SE) : Nat → Nat → List SE
 | _, 0 => []
 | j, n + 1 => .sel (.app g st) j :: ai g st (j + 1) n
def PE : Nat → Nat → List Nat
 | _, 0 => []
 | i, n + 1 => i :: PE (i + 1) n
def Xi [Facts] (θ : List SE) (β : List Nat) : Option Aj → Option Aj
 | some x => x.inst θ β
 | none => none
def Nf [Facts] (θ : List SE) (β : List Nat) (keep : List Nat) : Nat → Nat → List (Option Aj) → List (Option Aj) → List (Option Aj)
 | _, 0, _, _ => []
 | i, n + 1, x :: xs, y :: ys => (match y with
  | some y => (match Ln i keep with
   | true => some y
   | false => Xi θ β x)
  | none => none) :: Nf θ β keep (i + 1) n xs ys
 | i, n + 1, _, _ => none :: Nf θ β keep (i + 1) n [] []
@[reducible] def Nd : Facts := ⟨[]⟩
def BE (d : Dec) (i : Nat) (pt : Pt) (s : Nat) (sh : Sh) : Cut :=
 let θ := ai d.g (stE i (CM 0 pt.nv)) 1 sh.m
 let β := PE 0 d.p ++ PE pt.pre.length (sh.post.length - d.p)
 {key := pt.key, fn := d.f, nt := pt.nt, nv := pt.nv, todo := pt.todo, tmps := pt.tmps, pre := pt.pre, facts := pt.facts ++ [(Nl d.g i (CM 0 pt.nv) s, true)],
  res := @AV.inst Nd θ β sh.res, post := @Nf Nd θ β sh.keep 0 d.p sh.post pt.pre ++ List.replicate (pt.pre.length - d.p) none ++ (sh.post.drop d.p).map (@Xi Nd θ β), ent := d.p, defs := pt.defs }
def Qj : SE → SE
 | .and x (.bc true) => x
 | x => x
theorem RP (V : Val) (x : SE) : Ad V (Qj x) = Ad V x := by
 unfold Qj;split
 ·rename_i x;show Ad V x = ((Ad V x) && true);rw [Bool.and_true]
 ·rfl
def Pu (F : List (SB × Bool)) (g : Nat) (st : SE) (f : Nat → SE) (sf : SE) (p : SE × SE) : Bool :=
 match ((A7 g st f p.1).norm).same ((A7 g st f p.2).norm) with
 | true => true
 | false => match p.2.norm with
  | .bc c => p.1.isB && (match AR F (Qj p.1) with
   | some d => d == c
   | none => c && p.1.norm.same sf.norm)
  | _ => false
def FY (F : List (SB × Bool)) (g : Nat) (st : SE) (f : Nat → SE) (sf : SE) : Obs → Bool
 | [] => true
 | p :: r => match Pu F g st f sf p with
  | true => FY F g st f sf r
  | false => false
def WO [Facts] (E : Env) (c : Cut) (v : AV) (h : Aa) : Aa := Fj E c.post 0 (FV E c.post h (FT c.res v ⟨.nil, idT c.pre.length .nil⟩)).b h
def Jy [Facts] (E : Env) (c : Cut) (s : AS) : AS := { s with h := Fj E c.pre 0 (FV E c.pre s.h (NE c s)).b s.h }
def RD : List SE → List SE → Bool
 | [], [] => true
 | a :: l, b :: m => a.norm.same b.norm && RD l m
 | _, _ => false
def bw (s : Nat) (cs : List SE) : Nat → SE
 | 0 => .c (s + 1 : Nat)
 | k + 1 => cs.getD k (.bc false)
def gh (g j : Nat) (θ : List SE) (k : Nat) : SE := .sel (.app g (stE j θ)) k
def MP (E : Env) (d : Dec) (i : Nat) (pt : Pt) (F : List (SB × Bool)) (l : Lf) (dl : Plf) (s : Nat) (sh : Sh) : Bool :=
 match dl, l with
 | .stuck, _ => true
 | .done s' cs, .done v h => match Nat.beq s' s with
  | false => true
  | true => match @QY ⟨F⟩ E (BE d i pt s sh) v (@WO ⟨F⟩ E (BE d i pt s sh) v h) with
   | some o => FY F d.g (stE i (CM 0 pt.nv)) (bw s cs) (.c 0) o
   | none => false
 | .next j θ, .cut s0 => match d.pts[j]? with
  | some pj => match @TY ⟨F⟩ E (BE d j pj s sh) (@Jy ⟨F⟩ E (BE d j pj s sh) s0) with
   | some (θ', x, h', o1) => match RD θ' θ, @QY ⟨F⟩ E (BE d i pt s sh) x h' with
    | true, some o2 => FY F d.g (stE i (CM 0 pt.nv)) (gh d.g j θ) (Nl d.g j θ s) (o1 ++ o2)
    | _, _ => false
   | none => false
  | none => false
 | _, _ => false
def EI (E : Env) (d : Dec) (i : Nat) (pt : Pt) (F : List (SB × Bool)) (l : Lf) (dl : Plf) : Nat → List Sh → Bool
 | _, [] => true
 | s, sh :: r => match MP E d i pt F l dl s sh with
  | true => EI E d i pt F l dl (s + 1) r
  | false => false
def G5 (n m : Nat) : List SE → Bool
 | [] => true
 | a :: l => a.fits n m && G5 n m l
def Plf.fits (n m : Nat) : Plf → Bool
 | .stuck => true
 | .done _ cs => G5 n m cs
 | .next _ θ => G5 n m θ
def Dg (E : Env) (d : Dec) (i : Nat) (pt : Pt) : List (SB × Bool) → Tr Lf → Tr Plf → Option (List (Nat × List AI))
 | _, _, .leaf .stuck => some []
 | F, .leaf l, .leaf dl => match EI E d i pt F l dl 0 d.shs && dl.fits pt.nv d.g with
  | true => some (match dl, l with
   | .next j _, .cut s0 => [(j, s0.fr.todo)]
   | _, _ => [])
  | false => none
 | F, .split e a b, .split e' a' b' => match e.same e' && e.fits pt.nv d.g with
  | true => match Dg E d i pt ((e, true) :: F) a a', Dg E d i pt ((e, false) :: F) b b' with
   | some x, some y => some (x ++ y)
   | _, _ => none
  | false => none
 | _, _, _ => none
def Pt.st (pt : Pt) (d : Dec) : AS := { fr := { fn := d.f, nt := pt.nt, tmps := pt.tmps, todo := pt.todo, defers := Ip pt.defs, mode := .run, kind := .normal, round := none }, cs := [], h := { blk := A2 pt.pre, nx := pt.pre.length, log := [] } }
def Ak (E : Env) (keys : List Nat) (N : Nat) (d : Dec) (T : List (Tr Plf)) (i : Nat) : Option (List (Nat × List AI)) :=
 match d.pts[i]?, T[i]? with
 | some pt, some t => match GS E keys d.f N pt.facts (pt.st d) with
  | some r => Dg E d i pt pt.facts r t
  | none => none
 | _, _ => none
def stD (i nv : Nat) (V : Val) : D := .row (.int i :: (List.range nv).map V.d)
def Jp (G : Nat → D → D) (xs : List D) : Val := ⟨fun j => xs.getD j default, G⟩
def C5 (V : Val) : Plf → Option (D ⊕ D)
 | .stuck => none
 | .done s cs => some (.inr (.row (.int (s + 1 : Nat) :: cs.map (Ab V))))
 | .next j θ => some (.inl (.row (.int j :: θ.map (Ab V))))
def CI (T : List (Tr Plf)) (G : Nat → D → D) : D → Option (D ⊕ D)
 | .row (.int (.ofNat i) :: xs) => match T[i]? with
  | some t => C5 (Jp G xs) (t.get (Jp G xs))
  | none => none
 | _ => none
theorem N6 (V : Val) : ∀ {a b : List SE}, RD a b = true → a.map (Ab V) = b.map (Ab V)
 | [], [], _ => rfl
 | x :: a, y :: b, h => by
  simp only [RD, Bool.and_eq_true] at h;have := congrArg (Ab V) (SE.same_ok (U := Bz) h.1);rw [Cb, Cb] at this;simp only [List.map_cons, this, N6 V h.2]
 | [], _ :: _, h => by cases h
 | _ :: _, [], h => by cases h
theorem DH {n m : Nat} {V W : Val} (h : V.Alike n m W) : ∀ {l : List SE}, G5 n m l = true → l.map (Ab V) = l.map (Ab W)
 | [], _ => rfl
 | a :: l, hf => by
  simp only [G5, Bool.and_eq_true] at hf;simp only [List.map_cons, SE.fits_ok h a hf.1, DH h hf.2]
theorem RS {F : List (SB × Bool)} {g : Nat} {st : SE} {f : Nat → SE} {sf : SE} {V : Val} (hF : BF V F) (hf : ∀ j, Ab V (f j) = Ab V (.sel (.app g st) j)) (hsf : sf = .c 0 ∨ Ab V sf = .bool true) {p : SE × SE} (h : Pu F g st f sf p = true) : Ab V p.1 = Ab V p.2 := by
 unfold Pu at h;split at h
 ·rename_i hs;have := SE.same_ok (U := Bz) hs;have q := congrArg (Ab V) this
  rwa [Cb, Cb, Q0 hf, Q0 hf] at q
 ·split at h
  ·rename_i c hc;simp only [Bool.and_eq_true] at h;obtain ⟨hb, h⟩ := h;have e1 := Nw V hb;have e2 := Cb V p.2;rw [hc] at e2;rw [← e2, e1];show D.bool _ = D.bool c
   congr 1
   split at h
   ·rename_i d hd;have := Ay (U := Bz) (V := V) hF hd;rw [RP] at this;have h2 := eq_of_beq h;subst h2;exact this
   ·simp only [Bool.and_eq_true] at h;have h2 := congrArg (Ab V) (SE.same_ok (U := Bz) h.2);rw [Cb, Cb] at h2;have h3 : c = true := h.1;subst h3;rcases hsf with q | q
    ·rw [q, e1] at h2;cases h2
    ·rw [h2, q]; rfl
  ·cases h
theorem FW {F : List (SB × Bool)} {g : Nat} {st : SE} {f : Nat → SE} {sf : SE} {V : Val} (hF : BF V F) (hf : ∀ j, Ab V (f j) = Ab V (.sel (.app g st) j)) (hsf : sf = .c 0 ∨ Ab V sf = .bool true) : ∀ {o : Obs}, FY F g st f sf o = true → o.holds V
 | [], _ => fun a b hm => by cases hm
 | p :: r, h => by
  simp only [FY] at h;split at h
  ·rename_i hp;intro a b hm;rcases List.mem_cons.1 hm with q | q
   ·have := RS hF hf hsf hp;rw [← q] at this;exact this
   ·exact FW hF hf hsf h a b q
  ·cases h
theorem PO {E : Env} {d : Dec} {i : Nat} {pt : Pt} {V W : Val} (hVW : V.Alike pt.nv d.g W) : ∀ {r : Tr Lf} {t : Tr Plf} {F : List (SB × Bool)} {js : List (Nat × List AI)}, Dg E d i pt F r t = some js →
  t.get W = .stuck ∨ (EI E d i pt (r.way V F).2 (r.way V F).1 (t.get W) 0 d.shs = true ∧ (t.get W).fits pt.nv d.g = true ∧ ∀ j θ s0, t.get W = .next j θ → (r.way V F).1 = .cut s0 → (j, s0.fr.todo) ∈ js) := by
 intro r t
 induction t generalizing r with
 | leaf dl =>
  intro F js h;cases dl with
  | stuck => exact .inl rfl
  | done s cs =>
   right;cases r with
   | split => simp [Dg] at h
   | leaf l =>
    simp only [Dg] at h;split at h
    ·rename_i hc;simp only [Bool.and_eq_true] at hc;exact ⟨hc.1, hc.2, fun j θ s0 q => by cases q⟩
    ·cases h
  | next j θ =>
   right;cases r with
   | split => simp [Dg] at h
   | leaf l =>
    simp only [Dg] at h;split at h
    ·rename_i hc;simp only [Bool.and_eq_true] at hc;refine ⟨hc.1, hc.2, fun j' θ' s0 q1 q2 => ?_⟩
     cases q1;simp only [Tr.way] at q2;subst q2;cases h;simp
    ·cases h
 | split e a b iha ihb =>
  intro F js h;cases r with
  | leaf l => cases l <;> simp [Dg] at h
  | split e' a' b' =>
   simp only [Dg] at h;split at h
   ·rename_i hc;simp only [Bool.and_eq_true] at hc;have he := SE.same_ok (U := Bz) hc.1;subst he;have hv : Ad W e' = Ad V e' := by unfold Ad; rw [SE.fits_ok hVW e' hc.2]
    split at h
    ·rename_i x y hx hy;cases h;simp only [Tr.get, Tr.way, hv];cases hb : Ad V e' with
     | true =>
      rcases iha hx with q | ⟨q1, q2, q3⟩
      ·exact .inl q
      ·exact .inr ⟨q1, q2, fun j θ s0 z1 z2 => by simp [q3 j θ s0 z1 z2]⟩
     | false =>
      rcases ihb hy with q | ⟨q1, q2, q3⟩
      ·exact .inl q
      ·exact .inr ⟨q1, q2, fun j θ s0 z1 z2 => by simp [q3 j θ s0 z1 z2]⟩
    ·cases h
   ·cases h
theorem HW {E : Env} {d : Dec} {i : Nat} {pt : Pt} {F : List (SB × Bool)} {l : Lf} {dl : Plf} : ∀ {shs : List Sh} {s0 : Nat}, EI E d i pt F l dl s0 shs = true → ∀ (s : Nat) sh, shs[s]? = some sh → MP E d i pt F l dl (s0 + s) sh = true
 | [], s0, _, s, sh, h => by simp at h
 | a :: r, s0, h, s, sh, hs => by
  simp only [EI] at h;split at h
  ·rename_i ha;cases s with
   | zero => simp only [List.getElem?_cons_zero, Option.some.injEq] at hs; subst hs; exact ha
   | succ s =>
    simp only [List.getElem?_cons_succ] at hs;have := HW h s sh hs
    rwa [show s0 + 1 + s = s0 + (s + 1) by omega] at this
  ·cases h
structure P9 (P : Program) (f0 : FuncId) (base : List Frame) (K : Frame → World → Value → World → Prop) : Prop where
 pre : ∀ c c' w w1 v w', Steps P (lone c base w) (lone c' base w1) → K c' w1 v w' → K c w v w'
 ends : ∀ c w v w', Nj P c w true v w' → c.fn = f0 → c.roundOf = none → K c w v w'
def Cut.AtK (P : Program) (G : Nat → D → D) (c : Cut) (V : Val) (K : Frame → World → Value → World → Prop) : Prop :=
 ∀ (v : Vals), v.V = V → v.K = (Env.of P).kinds → V.fn = G → BF V c.facts → ∀ (ρ : Ren) (cf : Frame) (w : World), FrR ρ c.fr cf → HR ρ c.h.blk.get w → Bg ρ c.pre.length →
  ∃ σ v' w', K cf w v' w' ∧ VR σ c.res v' ∧ HR σ c.h'.blk.get w' ∧ Ext ρ σ c.h c.h' w w'
section
variable {E : Env} {G : Nat → D → D} (hE : ∀ [U : Unk], U.K = (Env.of E.P).kinds → OK E) {v : Vals} (hK : v.K = (Env.of E.P).kinds)
include hE hK
theorem U7 (hG : v.V.fn = G) {F : List (SB × Bool)} (hF : BF v.V F) {d : Cut} {s : AS} {θ : List SE} {x : AV} {h' : Aa} {o : Obs} (hx : @TY ⟨F⟩ E d s = some (θ, x, h', o)) (ho : o.holds v.V) {K : Frame → World → Value → World → Prop} (hat : d.AtK E.P G (v.V.inst θ) K) (htd : s.fr.todo = d.todo)
  {σ : Ren} {cf : Frame} {w : World} (hsr : SR σ s cf [] w) (hwf : WF s.h) (hfa : Bg σ s.h.nx):
  ∃ τ v' w', K cf w v' w' ∧ VR τ x v' ∧ HR τ h'.blk.get w' ∧ Ext σ τ s.h h' w w' := by
 have hEU : @OK (Bc v F hF) E := hE (U := Bc v F hF) hK;unfold TY at hx;split at hx;rename_i m h1 hbd;simp only at hx;split at hx
 ·rename_i hc;split at hx
  ·rename_i o1 t hx1 ht;simp only [Option.some.injEq, Prod.mk.injEq] at hx;obtain ⟨rfl, rfl, rfl, rfl⟩ := hx;obtain ⟨oa, ob, hxa, hx2, rfl⟩ := BC hx1;obtain ⟨ho1, hofacts⟩ := Obs.append ho;obtain ⟨hoa, hob⟩ := Obs.append ho1;generalize hθ : Gy m.v 0 d.nv = θ at *;generalize hβ : HT m.b 0 d.pre.length = β at *;have e2 : (@AP ⟨F⟩ E d.pre 0 (@FV ⟨F⟩ E d.pre s.h (NE d s)) s.h).2 = h1 := by rw [hbd]
   obtain ⟨q1, q2, q3⟩ := Bq (U := Bc v F hF) (E := E) d.pre 0 (@FV ⟨F⟩ E d.pre s.h (NE d s)) s.h hsr.h hwf (fun b b1 _ => hfa b b1)
   rw [e2] at q1 q2 q3;simp only [Bool.and_eq_true] at hc;obtain ⟨⟨⟨⟨⟨⟨⟨⟨⟨c1, c2⟩, c3⟩, c4⟩, c5⟩, c6⟩, c7⟩, c8⟩, c9⟩, c10⟩ := hc;have hfacts := Lc hofacts;have hV : (Cv (Bc v F hF) d.facts θ hfacts).V = (Bc v F hF).V.inst θ := rfl;have hKK : (Cv (Bc v F hF) d.facts θ hfacts).K = (Bc v F hF).K := rfl;have hlt := Kn c2;have hbl := (Df (U := Bc v F hF) (W := Cv (Bc v F hF) d.facts θ hfacts) hV hKK d.pre β ob hx2 hob).1;have p2 := HR.toPat (U := Bc v F hF) (W := Cv (Bc v F hF) d.facts θ hfacts) hV hKK hEU q1 hx2 hob c1;have hfa1 : Bg σ h1.nx := Bg.ext hfa q2
   have hback : Bg (σ.back β) d.pre.length := by
    intro b hb;have : β[b]? = none := List.getElem?_eq_none (by omega)
    simp [Ren.back, this]
   have hfr := hsr.fr
   have pfr : @FrR (Cv (Bc v F hF) d.facts θ hfacts).toVals (σ.back β) d.fr cf := by
    refine @FrR.mk (Cv (Bc v F hF) d.facts θ hfacts).toVals (σ.back β) d.fr cf ?_ (@TR.mk (Cv (Bc v F hF) d.facts θ hfacts).toVals (σ.back β) _ _ _ ?_ (fun i y hy => ?_)) ?_ ?_ ?_ ?_ ?_
    ·rw [hfr.fn]; exact Nat.eq_of_beq_eq_true c4
    ·rw [hfr.tm.size]; exact Nat.eq_of_beq_eq_true c5
    ·obtain ⟨z, z1, z2⟩ := K6 (U := Bc v F hF) (W := Cv (Bc v F hF) d.facts θ hfacts) hV hKK (ρ := σ) d.tmps s.fr.tmps oa hxa hoa i y hy;exact z2 _ (hfr.tm.get i z z1)
    ·show @IL (Cv (Bc v F hF) d.facts θ hfacts).toVals (σ.back β) d.todo cf.todo;rw [← htd];exact OJ c10 hfr.todo
    ·exact Mj c6 hfr.defers
    ·have hm := hfr.mode;show @MR (Cv (Bc v F hF) d.facts θ hfacts).toVals (σ.back β) .run cf.mode;cases hq : s.fr.mode with
     | run => rw [hq] at hm; generalize cf.mode = mm at hm; cases hm; exact @MR.run (Cv (Bc v F hF) d.facts θ hfacts).toVals (σ.back β)
     | ret => rw [hq] at c7; cases c7
     | panic => rw [hq] at c7; cases c7
    ·have hk := hfr.kind;show cf.kind = .normal;rw [hk];cases hq : s.fr.kind with
     | normal => rfl
     | _ => rw [hq] at c8; cases c8
    ·have hro := hfr.round;show RR (σ.back β) none cf.roundOf;cases hq : s.fr.round with
     | none => rw [hq] at hro; cases hz : cf.roundOf with | none => trivial | some => rw [hz] at hro; exact hro.elim
     | some => rw [hq] at c9; cases c9
   obtain ⟨σ2, v', w', r1, r2, r3, r4⟩ := hat (Cv (Bc v F hF) d.facts θ hfacts).toVals rfl hK hG hfacts (σ.back β) cf w pfr p2 hback;obtain ⟨τ, t1, t2, t3⟩ := RK (U := Bc v F hF) (E := E) (FF := d.facts) hfacts rfl rfl hx2 hob c1 hlt (Nat.le_of_ble_eq_true c3) ht q1 q3 (fun b hb _ => hfa1 b hb) r2 r3 r4
   exact ⟨τ, v', w', r1, t1, t2, q2.trans t3 (fun b hb _ => hfa b hb)⟩
  ·cases hx
 ·cases hx
end
theorem Mh (t : T SE) : ∀ (n i : Nat), (Gy t i n).length = n
 | 0, _ => rfl
 | n + 1, i => by simp [Gy, Mh t n]
theorem TP [Facts] {E : Env} {c : Cut} {s : AS} {θ : List SE} {x : AV} {h : Aa} {o : Obs} (hu : TY E c s = some (θ, x, h, o)) : θ.length = c.nv := by
 unfold TY at hu;split at hu;simp only at hu;split at hu
 ·split at hu
  ·simp only [Option.some.injEq, Prod.mk.injEq] at hu;rw [← hu.1, Mh]
  ·cases hu
 ·cases hu
def Qp (r : D) : Int := (r.cells.getD 0 default).toInt
theorem UR [Ap] {E : Env} {G : Nat → D → D} (hE : ∀ [U : Unk], U.K = (Env.of E.P).kinds → OK E) (hO : Af E G) {d : Dec} {T : List (Tr Plf)} {keys : List Nat} {N : Nat} (hg : ∀ x, G d.g x = BZ (CI T G) x)
  (hchk : ∀ (i : Nat) pt, d.pts[i]? = some pt → ∃ js, Ak E keys N d T i = some js ∧ ∀ j td, (j, td) ∈ js → ∀ pj, d.pts[j]? = some pj → td = pj.todo) :
  ∀ (n i : Nat) (pt : Pt) (s : Nat) (sh : Sh), d.pts[i]? = some pt → d.shs[s]? = some sh → ∀ (V : Val) (r : D), V.fn = G → EA (CI T G) n (stD i pt.nv V) = some r → Qp r = (s + 1 : Nat) → ∀ (base : List Frame) (K : Frame → World → Value → World → Prop), P9 E.P d.f base K → (BE d i pt s sh).AtK E.P G V K := by
 intro n
 induction n with
 | zero => intro i pt s sh _ _ V r _ h; cases h
 | succ n ih =>
  intro i pt s sh hpt hsh V r hVG hrun hrs base KK hgo v hvV hK hG hfacts ρ cf w hfr hr hfa;subst hvV;have hF0 : BF v.V pt.facts := fun e b hm => hfacts e b (by simp [BE, hm])
  obtain ⟨js, hdec, hjs⟩ := hchk i pt hpt;unfold Ak at hdec;rw [hpt] at hdec;split at hdec
  ·rename_i pt' t hpt' ht;cases hpt';split at hdec
   ·rename_i tr htr;have hgood := VD hE hO hK hG base N pt.facts (pt.st d) tr htr hF0 ρ cf [] w ⟨hfr, .nil, hr⟩ (Ic _ _) hfa;have hVW : v.V.Alike pt.nv d.g (Jp G ((List.range pt.nv).map v.V.d)) := ⟨fun j hj => by simp [Jp, List.getD_eq_getElem?_getD, hj], fun j _ => by rw [hG]; rfl⟩
    have hsemi : Ab v.V (stE i (CM 0 pt.nv)) = stD i pt.nv v.V := by
     rw [HN, Fe]; simp [stD]
    have hone : CI T G (stD i pt.nv v.V) = C5 (Jp G ((List.range pt.nv).map v.V.d)) (t.get (Jp G ((List.range pt.nv).map v.V.d))) := by
     show (match T[i]? with
      | some t => C5 (Jp G _) (t.get (Jp G _))
      | none => none) = _
     rw [ht]
    have hwhile : BZ (CI T G) (stD i pt.nv v.V) = r := DS hrun;generalize hW : Jp G ((List.range pt.nv).map v.V.d) = W at hVW hone;rcases PO (E := E) (d := d) (i := i) hVW hdec with hst | ⟨hshapes, hfits, hmem⟩
    ·simp only [EA, hone, hst, C5] at hrun; cases hrun
    ·generalize hlf : tr.way v.V pt.facts = lf at hgood hshapes hmem;obtain ⟨l, F⟩ := lf;simp only at hgood hshapes hmem;have hl := HW hshapes s sh hsh;simp only [Nat.zero_add] at hl;generalize hdl : t.get W = dl at hone hfits hl hmem;unfold MP at hl;split at hl
     ·simp only [EA, hone, C5] at hrun; cases hrun
     ·
      rename_i s' cs x h;simp only [EA, hone, C5] at hrun;cases hrun
      have hss : s' = s := by
       have : ((s' + 1 : Nat) : Int) = (s + 1 : Nat) := hrs;omega
      subst hss;rw [Nat.beq_refl] at hl;simp only at hl;split at hl
      ·rename_i o ho;obtain ⟨hF, σ, cf', v', w1, w', q1, qf, qr, q2, q3, q4, q5⟩ := hgood;have hcs : cs.map (Ab v.V) = cs.map (Ab W) := DH hVW hfits
       have hob : o.holds v.V := FW hF (fun j => by
        show _ = (v.V.fn d.g (Ab v.V (stE i (CM 0 pt.nv)))).cells.getD j default;rw [hsemi, hG, hg, hwhile];cases j with
        | zero => rfl
        | succ j =>
         show Ab v.V (cs.getD j (.bc false)) = (cs.map (Ab W)).getD j default;rw [← hcs];simp only [List.getD_eq_getElem?_getD, List.getElem?_map];cases cs[j]? <;> rfl) (.inl rfl) hl
       obtain ⟨pn, σ2, p1, p2⟩ := BL (U := Bc v F hF) (hE (U := Bc v F hF) hK) (BE d i pt s' sh).post 0 (@FV ⟨F⟩ E (BE d i pt s' sh).post h (FT (BE d i pt s' sh).res x ⟨.nil, idT (BE d i pt s' sh).pre.length .nil⟩)).b h σ q4;have q3 := VR.mono (U := (Bc v F hF).toVals) p2.le q3;have hfa2 : Bg σ h.nx := Bg.ext (h := (pt.st d).h) hfa q5;have q5 := q5.trans p2 (fun b hb hb2 => hfa b hb)
       have q4 := p1;have hwf := Ext.wf (U := Bc v F hF) q5 (Ic _ _);obtain ⟨τ, r1, r2, r3⟩ := Uv (c := BE d i pt s' sh) hE hK hF ho hob q3 q4 hwf q5 hfa;exact ⟨τ, v', w', hgo.pre _ _ _ _ _ _ q1 (hgo.ends _ _ _ _ q2 qf qr), r1, r2, r3⟩
      ·cases hl
     ·
      rename_i j θ s0;simp only [EA, hone, C5] at hrun;split at hl
      ·rename_i pj hpj;split at hl
       ·rename_i θ' x h o1 hu;split at hl
        ·rename_i o2 hθ ho2;have hθ' := N6 v.V hθ;obtain ⟨hF, hcs, σ, c', w1, q1, q2, q3⟩ := hgood;have hlen : θ'.length = pj.nv := @TP ⟨F⟩ _ _ _ _ _ _ _ hu
         have hst : (D.row (.int j :: θ.map (Ab W))) = stD j pj.nv (v.V.inst θ') := by
          have := DH hVW (l := θ) hfits;rw [← this, ← hθ'];unfold stD
          congr 2
          apply List.ext_getElem
          ·simp [hlen]
          ·intro k h1 h2;simp only [List.getElem_map, List.getElem_range, Val.inst];have : k < θ'.length := by simpa using h1
           simp [List.getD_eq_getElem?_getD, this]
         have hstE : Ab v.V (stE j θ) = stD j pj.nv (v.V.inst θ') := by
          rw [HN, DH hVW (l := θ) hfits, hst]
         rw [hst] at hrun;have hwj : BZ (CI T G) (stD j pj.nv (v.V.inst θ')) = r := DS hrun
         have hob : (o1 ++ o2).holds v.V := FW hF (fun k => by
          show (v.V.fn d.g (Ab v.V (stE j θ))).cells.getD k default = (v.V.fn d.g (Ab v.V (stE i (CM 0 pt.nv)))).cells.getD k default;rw [hstE, hsemi, hG, hg, hg, hwj, hwhile]) (.inr (by
          show D.bool ((((v.V.fn d.g (Ab v.V (stE j θ))).cells.getD 0 default).toInt) == ((s + 1 : Nat) : Int)) = _;rw [hstE, hG, hg, hwj];have : (r.cells.getD 0 default).toInt = ((s + 1 : Nat) : Int) := hrs;rw [this]; simp)) hl
         obtain ⟨hob1, hob2⟩ := Obs.append hob;have hat := ih j pj s sh hpj hsh (v.V.inst θ') r hG hrun hrs base KK hgo;have htd : s0.fr.todo = (BE d j pj s sh).todo := hjs j _ (hmem j θ s0 rfl rfl) pj hpj;obtain ⟨pn, σ2, p1, p2⟩ := BL (U := Bc v F hF) (hE (U := Bc v F hF) hK) (BE d j pj s sh).pre 0 (@FV ⟨F⟩ E (BE d j pj s sh).pre s0.h (NE (BE d j pj s sh) s0)).b s0.h σ q2.h;have q2 : SR σ2 (@Jy ⟨F⟩ E (BE d j pj s sh) s0) c' [] w1 := ⟨q2.fr.mono p2.le, q2.cs.mono p2.le, p1⟩;have q3 := q3.trans p2 (fun b hb hb2 => hfa b hb)
         have hwf1 : WF (@Jy ⟨F⟩ E (BE d j pj s sh) s0).h := Ext.wf (U := Bc v F hF) q3 (Ic _ _);have hfa1 : Bg σ2 (@Jy ⟨F⟩ E (BE d j pj s sh) s0).h.nx := Bg.ext (h := (pt.st d).h) hfa q3;obtain ⟨τ, v', w', r1, r2, r3, r4⟩ := U7 hE hK hG hF hu hob1 hat htd q2 hwf1 hfa1;have he : Ext ρ τ (pt.st d).h h w w' := q3.trans r4 (fun b hb _ => hfa b hb)
         have hwf2 : WF h := Ext.wf (U := Bc v F hF) r4 hwf1;obtain ⟨τ2, t1, t2, t3⟩ := Uv (c := BE d i pt s sh) hE hK hF ho2 hob2 r2 r3 hwf2 he hfa;exact ⟨τ2, v', w', hgo.pre _ _ _ _ _ _ q1 r1, t1, t2, t3⟩
        ·cases hl
       ·cases hl
      ·cases hl
     ·cases hl
   ·cases hdec
  ·cases hdec
theorem RX (P : Program) (f0 : FuncId) (c0 : Frame) (base : List Frame) : P9 P f0 (c0 :: base) (fun cf w v w' => BS P (lone cf (c0 :: base) w) c0 base true v w') :=
 ⟨fun c c' w w1 v w' h k => Steps.trans h k, fun c w v w' h _ _ => Steps.one (h.back c0 base)⟩
theorem Vo (P : Program) (f0 : FuncId) (base : List Frame) : P9 P f0 base (fun cf w v w' => ∃ fr, Steps P (lone cf base w) (lone fr base w') ∧ fr.fn = f0 ∧ fr.leaving P w' (.returned v)) :=
 ⟨fun c c' w w1 v w' h ⟨fr, k1, k2, k3⟩ => ⟨fr, Steps.trans h k1, k2, k3⟩, fun c w v w' h hf hr => by
  obtain ⟨e, q⟩ := h.leaves hr;subst e;exact ⟨c, Steps.refl _ _, hf, q⟩⟩
def Aq (E : Env) (f nv : Nat) (args : List AV) (pre : List (Option Aj)) (facts : List (SB × Bool)) : Pt :=
 { key := none, nt := (D9 E f args).nt, nv, todo := (D9 E f args).todo, tmps := (D9 E f args).tmps, pre, facts }
def Dec.sm (d : Dec) (args : List AV) (pt : Pt) (s : Nat) (sh : Sh) : Sm :=
 let c := BE d 0 pt s sh
 { f := d.f, nv := pt.nv, args, pre := pt.pre, facts := c.facts, res := c.res, post := c.post }
theorem O6 (r : D) (h : r = .row []) : Qp r = 0 := by subst h; rfl
theorem Dec.sm_ok [Ap] {E : Env} {G : Nat → D → D} (hE : ∀ [U : Unk], U.K = (Env.of E.P).kinds → OK E) (hO : Af E G) {d : Dec} {T : List (Tr Plf)} {keys : List Nat} {N : Nat} (hg : ∀ x, G d.g x = BZ (CI T G) x)
  (hchk : ∀ (i : Nat) pt, d.pts[i]? = some pt → ∃ js, Ak E keys N d T i = some js ∧ ∀ j td, (j, td) ∈ js → ∀ pj, d.pts[j]? = some pj → td = pj.todo)
  {nv : Nat} {args : List AV} {pre : List (Option Aj)} {facts : List (SB × Bool)} (hp0 : d.pts[0]? = some (Aq E d.f nv args pre facts)) (hent : (Bu E d.f args .normal).isSome = true) {s : Nat} {sh : Sh} (hsh : d.shs[s]? = some sh) :
  (d.sm args (Aq E d.f nv args pre facts) s sh).Valid E.P G := by
 refine AE.sm_ok hE hent (fun V hG hf => ?_)
 have hf' : BF V (BE d 0 (Aq E d.f nv args pre facts) s sh).facts := hf;have hs := hf' (Nl d.g 0 (CM 0 nv) s) true (by simp [BE, Aq])
 have hst : Ab V (stE 0 (CM 0 nv)) = stD 0 nv V := by rw [HN, Fe]; simp [stD]
 have hs' : Qp (BZ (CI T G) (stD 0 nv V)) = (s + 1 : Nat) := by
  have : ((((V.fn d.g (Ab V (stE 0 (CM 0 nv)))).cells.getD 0 default).toInt) == ((s + 1 : Nat) : Int)) = true := hs;rw [hst, hG, hg] at this;exact eq_of_beq this
 rcases Ew (CI T G) (stD 0 nv V) with q | ⟨n, hn⟩
 ·rw [O6 _ q] at hs'; omega
 ·intro v hvV hK hG' hfacts ρ cf w hfr hr hfa c0 base;exact UR hE hO hg hchk n 0 _ s sh hp0 hsh V _ hG hn hs' (c0 :: base) _ (RX E.P d.f c0 base) v hvV hK hG' hfacts ρ cf w hfr hr hfa
def Am : List (Nat × AV) → T AV
 | [] => .nil
 | (i, a) :: r => (Am r).set i a
def Dr (key : Nat) : Code → List AI → Option (List AI)
 | .seq a b, k => match Dr key a (.code b :: k) with
  | some l => some l
  | none => Dr key b k
 | .cond _ a b, k => match Dr key a k with
  | some l => some l
  | none => Dr key b k
 | .block id b, k => Dr key b (.inBlock id :: k)
 | .loop b, k => match QD [key] b with
  | true => some (.code b :: .inLoop b :: k)
  | false => Dr key b (.inLoop b :: k)
 | .scope b, k => Dr key b (.inScope b :: k)
 | _, _ => none
def Ec (key : Nat) : Code → List AI → Option (List AI)
 | .seq a b, k => match Ec key a (.code b :: k) with
  | some l => some l
  | none => Ec key b k
 | .cond _ a b, k => match Ec key a k with
  | some l => some l
  | none => Ec key b k
 | .block id b, k => Ec key b (.inBlock id :: k)
 | .loop b, k => Ec key b (.inLoop b :: k)
 | .scope b, k => Ec key b (.inScope b :: k)
 | .region id ops d, k => match Nat.beq id key with
  | true => some (.code (.region id ops d) :: k)
  | false => none
 | _, _ => none
def Cc (key : Nat) : Code → Option (List Tmp × Code × Code)
 | .seq a b => match Cc key a with
  | some l => some l
  | none => Cc key b
 | .cond _ a b => match Cc key a with
  | some l => some l
  | none => Cc key b
 | .block _ b => Cc key b
 | .loop b => Cc key b
 | .scope b => Cc key b
 | .rangeFunc _ ps a b => match QD [key] (.seq a b) with
  | true => some (ps.toList, a, b)
  | false => Cc key b
 | _ => none
def RG (E : Env) (f : FuncId) (key : Nat) (st : LoopState) (pending : Option Code) (nt : Nat) (tmps : List (Nat × AV)) (d : Nat) : Aj := match E.fn.get f with
 | some fn => match fn.body with
  | some b => match Cc key b with
   | some (ps, as, bd) => .loop st pending f nt (Am tmps) ps as bd d
   | none => .deferred none
  | none => .deferred none
 | none => .deferred none
def UA (E : Env) (f : FuncId) (key : Nat) : List AI := match E.fn.get f with
 | some fn => match fn.body with
  | some b => match (match Nat.ble 1000000 key with | true => Ec (key - 1000000) b [] | false => Dr key b []) with
   | some l => l
   | none => []
  | none => []
 | none => []
def Az (E : Env) (f nt key nv : Nat) (tmps : List (Nat × AV)) (pre : List (Option Aj)) (facts : List (SB × Bool)) (defs : List Nat) : Pt :=
 { key := some key, nt, nv, todo := UA E f key, tmps := Am tmps, pre, facts, defs }
open Go.RowKit
def Gm (o : Option Nat) (P : Program) (ts : List TypeId) (xs : List D) : Prop := ∃ ks cs M, Bo (Env.of P) ts = some ks ∧ DVL (Env.of P).kinds M ks cs xs ∧ (Can ks xs ∧ N7 (Env.of P).kinds 9 ks xs) ∧ ShL (Env.of P).kinds o 9 ks xs
def Kb : Sh := { m := 1, res := .sb true (.var 0), post := [], keep := [] }
def BM (E : Env) (ts : List TypeId) : List (SB × Bool) := match Bo E ts with
 | some ks => BX 0 ks
 | none => []
def EC (E : Env) (ts : List TypeId) : Nat := match Bo E ts with
 | some ks => ks.length
 | none => 0
def F5 (E : Env) (ts : List TypeId) : List AV := match @E3 ⟨BM E ts⟩ E 0 ts with
 | some l => l
 | none => []
def Kw (E : Env) (f : FuncId) (ts : List TypeId) : Pt := Aq E f (EC E ts) (F5 E ts) [] (BM E ts)
def Vg (E : Env) (f : FuncId) (ts : List TypeId) (L : List TypeId) : Bool :=
 Gj E L L && (match Bo E ts with
  | some ks => ks.all (OU L)
  | none => false) && (@E3 ⟨BM E ts⟩ E 0 ts).isSome && (Bu E f (F5 E ts) .normal).isSome
section
variable {E : Env} {L : List TypeId} {H : Type} {enc : TypeId × Value → H} {w : World} {base : Nat} {sp : Nat → Bool} {held : Bool}
theorem Wq [Ap] {G : Nat → D → D} (hE : ∀ [U : Unk], U.K = (Env.of E.P).kinds → OK E) (hke : E.kinds = (Env.of E.P).kinds) (hO : Af E G) {d : Dec} {T : List (Tr Plf)} {keys : List Nat} {N : Nat} (hg : ∀ x, G d.g x = BZ (CI T G) x)
  (hchk : ∀ (i : Nat) pt, d.pts[i]? = some pt → ∃ js, Ak E keys N d T i = some js ∧ ∀ j td, (j, td) ∈ js → ∀ pj, d.pts[j]? = some pj → td = pj.todo)
  {ts : List TypeId} (hp0 : d.pts[0]? = some (Kw E d.f ts)) (hsh : d.shs[0]? = some Kb) (hok : Vg E d.f ts L = true) (hkk : Bo E ts = Bo (Env.of E.P) ts)
  {o : Option Nat} (hplain : ∀ xs, Gm o E.P ts xs → G d.g (.row (.int 0 :: xs)) = .row [.int 1, .bool true])
  {vs : List Value} {ds : List (DataW H)} {ps : List MemPlace} (hsw : Bb o ds) (hA : DataW.TrodAll enc E.P w base sp held ts vs ds ps) (hval : ∀ (j : Nat) t v, ts[j]? = some t → vs[j]? = some v → ∃ r b0, Value.okWide E.P w r b0 t v) :
  Calls E.P d.f vs.toArray w fun e W' => e = .returned (.bool true) ∧ Below w.heap.size w W' := by
 unfold Vg at hok;simp only [Bool.and_eq_true] at hok;obtain ⟨⟨⟨hL, hin⟩, hsym⟩, hent⟩ := hok;split at hin
 ·rename_i ks hk;obtain ⟨cs, xs, q1, qc, q2⟩ := Xb (U := Tw E.P) (hE (U := Tw E.P) rfl) hL (o := o) ts vs ds ps ks hA hval hk hin hsw;have hlen : ks.length = xs.length := q1.len.2;have hnv : EC E ts = xs.length := by unfold EC; rw [hk]; exact hlen
  have hfk : BM E ts = BX 0 ks := by unfold BM; rw [hk]
  have hF : BF (C3 G xs) (BM E ts) := by
   rw [hfk];exact GC (U := Tw E.P) ks cs xs 0 (fun i hi => by simp [C3]) q1
  intro cs0;cases hfr : Bu E d.f (F5 E ts) .normal with
  | none => rw [hfr] at hent; cases hent
  | some fr =>
   have hst : stD 0 (EC E ts) (C3 G xs) = .row (.int 0 :: xs) := by
    unfold stD;rw [hnv]
    congr 2
    apply List.ext_getElem
    ·simp
    ·intro k h1 h2;simp [C3, List.getD_eq_getElem?_getD, h2]
   have hres := hplain xs ⟨ks, cs, FU w, by rw [← hkk]; exact hk, by rw [← hke]; exact q1, ⟨qc.1.1, by rw [← hke]; exact qc.1.2⟩, by rw [← hke]; exact qc.2⟩
   rw [hg, ← hst] at hres;rcases Ew (CI T G) (stD 0 (EC E ts) (C3 G xs)) with q | ⟨n, hn⟩
   ·rw [q] at hres; cases hres
   ·rw [hres] at hn;have hat := UR hE hO hg hchk n 0 _ 0 Kb hp0 hsh (C3 G xs) _ rfl hn rfl cs0 _ (Vo E.P d.f cs0)
    let vv : Vals := { V := C3 G xs, K := E.kinds, R := [], hR := fun _ _ _ _ _ h => (by cases h) }
    have hstE : Ab (C3 G xs) (stE 0 (CM 0 (EC E ts))) = stD 0 (EC E ts) (C3 G xs) := by
     rw [HN, Fe]; simp [stD]
    have hval1 : (C3 G xs).fn d.g (Ab (C3 G xs) (stE 0 (CM 0 (EC E ts)))) = .row [.int 1, .bool true] := by
     rw [hstE, ← hres]; exact hg _
    have hfacts : BF vv.V (BE d 0 (Kw E d.f ts) 0 Kb).facts := by
     intro e b hm;have hm' : (e, b) ∈ BM E ts ++ [(Nl d.g 0 (CM 0 (EC E ts)) 0, true)] := hm;rcases List.mem_append.1 hm' with q | q
     ·exact hF e b q
     ·simp only [List.mem_singleton, Prod.mk.injEq] at q;obtain ⟨rfl, rfl⟩ := q;show ((((C3 G xs).fn d.g (Ab (C3 G xs) (stE 0 (CM 0 (EC E ts))))).cells.getD 0 default).toInt == ((0 + 1 : Nat) : Int)) = true;rw [hval1]; rfl
    have hargs : @VL vv ⟨fun _ => none, FU w⟩ (F5 E ts) vs := by
     cases hs : @E3 ⟨BM E ts⟩ E 0 ts with
     | none => rw [hs] at hsym; cases hsym
     | some as =>
      have e1 : F5 E ts = as := by unfold F5; rw [hs]
      rw [e1];exact q2 { facts := BM E ts, toVals := vv, ok := hF } 0 as ⟨fun _ => none, FU w⟩ rfl rfl (fun i hi => by show (C3 G xs).d (0 + i) = _; simp [C3]) hs
    have hEv := hE (U := { facts := BM E ts, toVals := vv, ok := hF }) hke;have hfrr := C7 (U := { facts := BM E ts, toVals := vv, ok := hF }) hEv hfr hargs
    have efr : (BE d 0 (Kw E d.f ts) 0 Kb).fr = fr := by
     have hq := hfr;unfold Bu at hq;split at hq
     ·rename_i fn hfn;split at hq
      ·rename_i c hc;cases hq;simp [Cut.fr, BE, Kw, Aq, D9, Bu, hfn, hc, Ip]
      ·cases hq
     ·cases hq
    obtain ⟨σ, v', w', ⟨fr', k1, k2, k3⟩, r1, r2, r3⟩ := hat vv rfl hke rfl hfacts ⟨fun _ => none, FU w⟩ _ w (by rw [efr]; exact hfrr) (Tq (U := { facts := BM E ts, toVals := vv, ok := hF }) w) (fun b _ => rfl)
    have hv' : v' = .bool true := by
     have e2 : (BE d 0 (Kw E d.f ts) 0 Kb).res = .sb true (.sel (.app d.g (stE 0 (CM 0 (EC E ts)))) 1) := rfl;rw [e2] at r1;cases r1
     have : Ad vv.V (.sel (.app d.g (stE 0 (CM 0 (EC E ts)))) 1) = true := by
      show (((C3 G xs).fn d.g (Ab (C3 G xs) (stE 0 (CM 0 (EC E ts))))).cells.getD 1 default).toBool = true;rw [hval1]; rfl
     rw [this]; rfl
    subst hv';exact ⟨.returned (.bool true), w', fr', ⟨rfl, r3.calm.os, r3.calm.tape, r3.calm.output, r3.calm.size, fun k hk => r3.kept k hk (fun b base h => by cases h)⟩, k1, k2, k3⟩
 ·cases hin
end
theorem RN [Ap] {H : Type} {enc : TypeId × Value → H} {a : Assume} {C : Checked} {os : Os} {fn : Func} {s : OpenSpec} {k : (H : Type) → List (DataW H) → Bool} (hk : s.cond = some k) {F : Stop.Interp} {conds : List PathCond} {apart : Bool} {L : List TypeId} {tb : TypeId} {l : List Orc} {m : List Sm} {G : Nat → D → D} {d : Dec} {T : List (Tr Plf)} {keys : List Nat} {N : Nat} {o : Option Nat} (hsmall : ∀ ds : List (DataW H), k H ds = true → Bb o ds)
  (own : ownKnob C.prog.godebug = none) (started : os.Started) (noInit : C.prog.inits.idxOf? d.f = none) (hfn : C.prog.funcs[d.f]? = some fn)
  (witness : ∃ (w : World) (tape : Tape) (i : Input), w.os = os ∧ (w.forCall tape i).Shaped C.prog ∧ i.vars = [] ∧ Input.okWide C.prog (w.forCall tape i) .any w.heap.size d.f i ∧
   s.pre6 enc C.prog fn conds apart (w.forCall tape i).memory i.args ∧ a.holds C.prog (lone (Frame.enter C.prog d.f i.args .normal) [] (w.forCall tape i)))
  (hl : laidOutB C.prog = true) (hr : ∀ t ∈ fn.params.toList, C.prog.readableRec t = true ∧ t < C.prog.types.size) (hvars : s.vars = []) (hvars2 : (s.at F).vars = [])
  (hspec : ∀ ds : List (DataW H), ds.length = fn.params.toList.length → (s.at F).fn H ds = { results := [.lit (.bool true)], args := ds })
  (hres : fn.resultTypes = #[tb]) (hb : C.prog.underlying tb = some .bool) (hE : ∀ [U : Unk], U.K = (Env.of C.prog).kinds → OK (Env.ofS C.prog l m)) (hO : Af (Env.ofS C.prog l m) G)
  (hg : ∀ x, G d.g x = BZ (CI T G) x) (hchk : ∀ (i : Nat) pt, d.pts[i]? = some pt → ∃ js, Ak (Env.ofS C.prog l m) keys N d T i = some js ∧ ∀ j td, (j, td) ∈ js → ∀ pj, d.pts[j]? = some pj → td = pj.todo)
  (hp0 : d.pts[0]? = some (Kw (Env.ofS C.prog l m) d.f fn.params.toList)) (hsh : d.shs[0]? = some Kb) (hok : Vg (Env.ofS C.prog l m) d.f fn.params.toList L = true)
  (hplain : ∀ xs, Gm o C.prog fn.params.toList xs → G d.g (.row (.int 0 :: xs)) = .row [.int 1, .bool true]) :
  ReturnsInHanded a C os d.f .any (s.pre6 enc C.prog fn conds apart) ((s.at F).post enc C.prog fn apart true false false) := by
 refine returnsInHanded_of_cond hk own started noInit hfn witness ?_;intro W base args ds gs before hval hW hcnd hkk2 _;have hW' := hW;obtain ⟨p, q, hA, hV, rfl, hfz, hnd⟩ := hW;rw [hvars] at hV
 have hgs : gs = [] ∧ q = [] := by
  cases gs with
  | nil => exact ⟨rfl, hV⟩
  | cons => simp [DataW.TrodVars] at hV
 obtain ⟨rfl, rfl⟩ := hgs;rw [List.append_nil] at hkk2;have hlen := I3 hA;have hsp := hspec ds hlen
 have hkk : Bo (Env.ofS C.prog l m) fn.params.toList = Bo (Env.of C.prog) fn.params.toList := by
  generalize fn.params.toList = ts
  induction ts with
  | nil => rfl
  | cons t r ih => simp only [Bo]; rw [ih]; rfl
 refine (Wq (E := Env.ofS C.prog l m) hE rfl hO hg hchk hp0 hsh hok hkk (o := o) hplain (hsmall ds hkk2) hA (fun j t v ht hv => ⟨_, _, hval j t v (by simpa using ht) (by simpa using hv)⟩)).mono ?_
 rintro e W' ⟨rfl, hbelow⟩
 refine ⟨.bool true, rfl, ds, [], p ++ [], [], p, [], (by rw [hvars2, ← hvars]; exact hW'), ?_, ?_, ?_, hbelow.frame _, fun h => by cases h⟩
 ·rw [List.append_nil, hsp, hres];exact ⟨[], [], shut_bool hb true, rfl, rfl⟩
 ·rw [List.append_nil, hsp];exact GF hl hbelow hr hA (fun x hx => hW'.lt x (by simp [hx]))
 ·rw [List.append_nil, hsp, hvars2]; rfl
end Go.AE
namespace Go.AE
def jl (d : Dec) : List Nat → List (Nat × List AI)
 | [] => []
 | j :: r => (j, (d.pts.getD j default).todo) :: jl d r
def AB (E : Env) (keys : List Nat) (N : Nat) (d : Dec) (T : List (Tr Plf)) : Prop :=
 ∀ (i : Nat) pt, d.pts[i]? = some pt → ∃ l, Ak E keys N d T i = some (jl d l)
theorem Ux {d : Dec} : ∀ {l : List Nat} {j : Nat} {td : List AI}, (j, td) ∈ jl d l → ∀ pj, d.pts[j]? = some pj → td = pj.todo
 | [], j, td, h, pj, hp => by cases h
 | a :: r, j, td, h, pj, hp => by
  rcases List.mem_cons.1 h with q | q
  ·cases q;simp [List.getD_eq_getElem?_getD, hp]
  ·exact Ux q pj hp
theorem AB.chk {E : Env} {keys : List Nat} {N : Nat} {d : Dec} {T : List (Tr Plf)} (h : AB E keys N d T) (i : Nat) (pt : Pt) (hp : d.pts[i]? = some pt) :
  ∃ js, Ak E keys N d T i = some js ∧ ∀ j td, (j, td) ∈ js → ∀ pj, d.pts[j]? = some pj → td = pj.todo := by
 obtain ⟨l, hl⟩ := h i pt hp;exact ⟨_, hl, fun j td hm pj hj => Ux hm pj hj⟩
def Tr.appsLt (m : Nat) : Tr Plf → Bool
 | .leaf .stuck => true
 | .leaf (.done _ cs) => G5 1000 m cs
 | .leaf (.next _ θ) => G5 1000 m θ
 | .split e a b => e.fits 1000 m && a.appsLt m && b.appsLt m
def Mu (m : Nat) : List (Tr Plf) → Bool
 | [] => true
 | t :: r => t.appsLt m && Mu m r
def GW : Nat → List (List (Tr Plf)) → Bool
 | _, [] => true
 | m, t :: r => Mu m t && GW (m + 1) r
def gAt [Ap] (Ts : List (List (Tr Plf))) : Nat → Nat → D → D
 | 0, _, _ => .row []
 | n + 1, k, x => if k = n then BZ (CI (Ts.getD n []) (gAt Ts n)) x else gAt Ts n k x
def An [Ap] (Ts : List (List (Tr Plf))) : Nat → D → D := gAt Ts Ts.length
theorem Ni [Ap] (Ts : List (List (Tr Plf))) {k : Nat} (x : D) : ∀ {n : Nat}, k < n → gAt Ts n k x = gAt Ts (k + 1) k x
 | 0, h => by omega
 | n + 1, h => by
  by_cases c : k = n
  ·subst c; rfl
  ·have : gAt Ts (n + 1) k x = gAt Ts n k x := by show (if k = n then _ else _) = _; rw [if_neg c]
   rw [this];exact Ni Ts x (by omega)
theorem Qq {m : Nat} {V W : Val} (hd : V.d = W.d) (hf : ∀ i, i < m → V.fn i = W.fn i) : ∀ {t : Tr Plf}, t.appsLt m = true → C5 V (t.get V) = C5 W (t.get W) := by
 have ha : V.Alike 1000 m W := ⟨fun i _ => by rw [hd], hf⟩
 intro t
 induction t with
 | leaf l =>
  intro h;cases l with
  | stuck => rfl
  | done s cs => simp only [Tr.get, C5]; rw [DH ha h]
  | next j θ => simp only [Tr.get, C5]; rw [DH ha h]
 | split e a b iha ihb =>
  intro h;simp only [Tr.appsLt, Bool.and_eq_true] at h;have he : Ad V e = Ad W e := by unfold Ad; rw [SE.fits_ok ha e h.1.1]
  simp only [Tr.get, he];cases Ad W e with
  | true => exact iha h.1.2
  | false => exact ihb h.2
theorem Vl {m : Nat} {G H : Nat → D → D} (hf : ∀ i, i < m → G i = H i) {T : List (Tr Plf)} (hT : Mu m T = true) : CI T G = CI T H := by
 have key : ∀ (T : List (Tr Plf)), Mu m T = true → ∀ (i : Nat) t, T[i]? = some t → t.appsLt m = true := by
  intro T
  induction T with
  | nil => intro _ i t h; simp at h
  | cons a r ih =>
   intro h i t hi;simp only [Mu, Bool.and_eq_true] at h;cases i with
   | zero => simp only [List.getElem?_cons_zero, Option.some.injEq] at hi; subst hi; exact h.1
   | succ i => exact ih h.2 i t (by simpa using hi)
 funext x
 unfold CI;split
 ·rename_i i xs;split
  ·rename_i t ht;exact Qq (m := m) (V := Jp G xs) (W := Jp H xs) rfl (fun i hi => hf i hi) (key T hT i t ht)
  ·rfl
 ·rfl
theorem Kz : ∀ {Ts : List (List (Tr Plf))} {m : Nat}, GW m Ts = true → ∀ (k : Nat) T, Ts[k]? = some T → Mu (m + k) T = true
 | [], m, _, k, T, h => by simp at h
 | a :: r, m, h, k, T, hk => by
  simp only [GW, Bool.and_eq_true] at h;cases k with
  | zero => simp only [List.getElem?_cons_zero, Option.some.injEq] at hk; subst hk; exact h.1
  | succ k =>
   have := Kz h.2 k T (by simpa using hk)
   rwa [show m + 1 + k = m + (k + 1) by omega] at this
theorem Ar [Ap] {Ts : List (List (Tr Plf))} (h : GW 0 Ts = true) {k : Nat} {T : List (Tr Plf)} (hk : Ts[k]? = some T) (x : D) : An Ts k x = BZ (CI T (An Ts)) x := by
 have hlt : k < Ts.length := (List.getElem?_eq_some_iff.1 hk).1;have hT := Kz h k T hk;rw [Nat.zero_add] at hT
 have e1 : An Ts k x = BZ (CI T (gAt Ts k)) x := by
  unfold An;rw [Ni Ts x hlt];show (if k = k then _ else _) = _
  rw [if_pos rfl];simp [List.getD_eq_getElem?_getD, hk]
 rw [e1, Vl (fun i hi => ?_) hT]
 funext y
 unfold An;rw [Ni Ts y hi, Ni Ts y (show i < Ts.length by omega)]
def Dec.smL (d : Dec) (args : List AV) (pt : Pt) : Nat → List Sh → List Sm
 | _, [] => []
 | s, sh :: r => d.sm args pt s sh :: d.smL args pt (s + 1) r
theorem Af.decL [Ap] {P : Program} {l : List Orc} {m : List Sm} {G : Nat → D → D} (hE : ∀ [U : Unk], U.K = (Env.of P).kinds → OK (Env.ofS P l m)) (hO : Af (Env.ofS P l m) G) {d : Dec} {T : List (Tr Plf)} {keys : List Nat} {N : Nat} (hg : ∀ x, G d.g x = BZ (CI T G) x)
  (hchk : AB (Env.ofS P l m) keys N d T) {nv : Nat} {args : List AV} {pre : List (Option Aj)} {facts : List (SB × Bool)} (hp0 : d.pts[0]? = some (Aq (Env.of P) d.f nv args pre facts)) (hent : (Bu (Env.of P) d.f args .normal).isSome = true) :
  Af (Env.ofS P l (d.smL args (Aq (Env.of P) d.f nv args pre facts) 0 d.shs ++ m)) G := by
 have key : ∀ (shs : List Sh) (s0 : Nat), (∀ (i : Nat) sh, shs[i]? = some sh → d.shs[s0 + i]? = some sh) → ∀ x ∈ d.smL args (Aq (Env.of P) d.f nv args pre facts) s0 shs, x.Valid P G := by
  intro shs
  induction shs with
  | nil => intro s0 _ x hx; cases hx
  | cons sh r ih =>
   intro s0 hs x hx;rcases List.mem_cons.1 hx with q | q
   ·subst q;exact Dec.sm_ok (E := Env.ofS P l m) hE hO hg hchk.chk hp0 hent (hs 0 sh rfl)
   ·exact ih (s0 + 1) (fun i sh' hi => by have := hs (i + 1) sh' (by simpa using hi); rwa [show s0 + (i + 1) = s0 + 1 + i by omega] at this) x q
 refine ⟨hO.orc, fun x hx => ?_⟩
 rcases List.mem_append.1 hx with q | q
 ·exact key d.shs 0 (fun i sh hi => by rw [Nat.zero_add]; exact hi) x q
 ·exact hO.sms x q
abbrev iV (n : Nat) : AV := .si .i64 (.var n)
abbrev sV (n : Nat) : AV := .ss (.var n)
abbrev bV (n : Nat) : AV := .sb true (.var n)
abbrev dV (e : TypeId) (n : Nat) : AV := .dat e (.var n)
abbrev aV (b es n m : Nat) : AV := .asl b es (.lenL (.var n)) (.var m)
abbrev tO (l : List (Nat × AV)) : Option Aj := some (.cells l.length (Am l))
abbrev rV (e : TypeId) (n : Nat) : Option Aj := some (.arr e (.var n))
class Pg (p : outParam Program) (l : outParam (List Orc)) : Prop where
 it : True
abbrev E0 {p : Program} {l : List Orc} [Pg p l] : Env := Env.of p
abbrev EF {p : Program} {l : List Orc} [Pg p l] (m : Env → List Sm) : Env := Env.ofS p l (m E0)
def rl : List SE → SE
 | [] => .rnil
 | x :: r => .rcons x (rl r)
def us : Nat → Nat → List SE
 | _, 0 => []
 | a, n + 1 => .var a :: us (a + 1) n
section
variable {E : Env} {keys : List Nat} {N : Nat} {d : Dec} {T : List (Tr Plf)}
theorem dkN {n : Nat} (h : d.pts.length = n) (H : ∀ i, i < n → ∃ l, Ak E keys N d T i = some (jl d l)) : AB E keys N d T := fun i pt hp => H i (by
 rcases Nat.lt_or_ge i n with q | q
 ·exact q
 ·rw [List.getElem?_eq_none (by omega)] at hp
  cases hp)
theorem dk1 {x0 : List Nat} (h : d.pts.length = 1) (h0 : Ak E keys N d T 0 = some (jl d x0)) : AB E keys N d T := dkN h fun i hi => match i, hi with
 | 0, _ => ⟨_, h0⟩
 | i + 1, hi => absurd hi (by omega)
theorem dk2 {x0 x1 : List Nat} (h : d.pts.length = 2) (h0 : Ak E keys N d T 0 = some (jl d x0)) (h1 : Ak E keys N d T 1 = some (jl d x1)) : AB E keys N d T := dkN h fun i hi => match i, hi with
 | 0, _ => ⟨_, h0⟩
 | 1, _ => ⟨_, h1⟩
 | i + 2, hi => absurd hi (by omega)
theorem dk3 {x0 x1 x2 : List Nat} (h : d.pts.length = 3) (h0 : Ak E keys N d T 0 = some (jl d x0)) (h1 : Ak E keys N d T 1 = some (jl d x1)) (h2 : Ak E keys N d T 2 = some (jl d x2)) : AB E keys N d T := dkN h fun i hi => match i, hi with
 | 0, _ => ⟨_, h0⟩
 | 1, _ => ⟨_, h1⟩
 | 2, _ => ⟨_, h2⟩
 | i + 3, hi => absurd hi (by omega)
theorem dk4 {x0 x1 x2 x3 : List Nat} (h : d.pts.length = 4) (h0 : Ak E keys N d T 0 = some (jl d x0)) (h1 : Ak E keys N d T 1 = some (jl d x1)) (h2 : Ak E keys N d T 2 = some (jl d x2)) (h3 : Ak E keys N d T 3 = some (jl d x3)) : AB E keys N d T := dkN h fun i hi => match i, hi with
 | 0, _ => ⟨_, h0⟩
 | 1, _ => ⟨_, h1⟩
 | 2, _ => ⟨_, h2⟩
 | 3, _ => ⟨_, h3⟩
 | i + 4, hi => absurd hi (by omega)
theorem dk5 {x0 x1 x2 x3 x4 : List Nat} (h : d.pts.length = 5) (h0 : Ak E keys N d T 0 = some (jl d x0)) (h1 : Ak E keys N d T 1 = some (jl d x1)) (h2 : Ak E keys N d T 2 = some (jl d x2)) (h3 : Ak E keys N d T 3 = some (jl d x3)) (h4 : Ak E keys N d T 4 = some (jl d x4)) : AB E keys N d T := dkN h fun i hi => match i, hi with
 | 0, _ => ⟨_, h0⟩
 | 1, _ => ⟨_, h1⟩
 | 2, _ => ⟨_, h2⟩
 | 3, _ => ⟨_, h3⟩
 | 4, _ => ⟨_, h4⟩
 | i + 5, hi => absurd hi (by omega)
theorem dk6 {x0 x1 x2 x3 x4 x5 : List Nat} (h : d.pts.length = 6) (h0 : Ak E keys N d T 0 = some (jl d x0)) (h1 : Ak E keys N d T 1 = some (jl d x1)) (h2 : Ak E keys N d T 2 = some (jl d x2)) (h3 : Ak E keys N d T 3 = some (jl d x3)) (h4 : Ak E keys N d T 4 = some (jl d x4)) (h5 : Ak E keys N d T 5 = some (jl d x5)) : AB E keys N d T := dkN h fun i hi => match i, hi with
 | 0, _ => ⟨_, h0⟩
 | 1, _ => ⟨_, h1⟩
 | 2, _ => ⟨_, h2⟩
 | 3, _ => ⟨_, h3⟩
 | 4, _ => ⟨_, h4⟩
 | 5, _ => ⟨_, h5⟩
 | i + 6, hi => absurd hi (by omega)
end
end Go.AE

