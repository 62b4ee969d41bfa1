/- What is proved here: an evaluator of the model's steps that the kernel can run, and that whatever it answers is what the model does (part 4 of 7: AeMap, AeMap2, AeCat, AeOps19, AeOps20, AeStep1, AeStep2, AeStep3, AeStep4, AeStep5, AeStep6, AeStep7, AeDraw1, AeDraw2, AeDraw3, AeDraw4). Conditions: those that each theorem states; they hold of no one program. -/
import Derived.Test.YtkhnegoolkefjaaGreatDoorBeC
set_option linter.unusedVariables false
set_option linter.unusedSectionVars false
set_option linter.unusedSimpArgs false
namespace Go.AE
section
variable [U : Unk]
theorem PZ (V : Val) : ∀ e : SE, Ad V e = (HS e).all (Ad V) := by
 intro e
 induction e with
 | and a b iha ihb =>
  show (Ad V a && Ad V b) = (HS a ++ HS b).all (Ad V);rw [List.all_append, ← iha, ← ihb]
 | bc b =>
  cases b with
  | true => rfl
  | false => rfl
 | _ => simp [HS]
theorem IX : ∀ {l m : List SE}, Hz l m = true → l = m
 | [], [], _ => rfl
 | a :: l, b :: m, h => by
  simp only [Hz] at h;obtain ⟨h1, h2⟩ := Ak h;rw [SE.same_eq h1, IX h2]
 | [], _ :: _, h => by cases h
 | _ :: _, [], h => by cases h
theorem OP (l b l' b' : Nat) : strEq l b l' b' = strEq l' b' l b := by
 simp only [strEq];rw [Bool.eq_iff_iff];simp only [Bool.and_eq_true, Nat.beq_eq];constructor <;> (rintro ⟨rfl, rfl⟩; exact ⟨rfl, rfl⟩)
theorem B8 {α : Type} {a : α} {l : List α} {d : α} (q : Nat) : (a :: l).getD (q + 1) d = l.getD q d := by
 simp [List.getD_eq_getElem?_getD]
theorem Jt {α : Type} {a : α} {l : List α} {d : α} : (a :: l).getD 0 d = a := rfl
theorem LI (V : Val) : ∀ (ks : List Kd) (i j : Nat) (c1 c2 : List D), GW ks = true → ks.length ≤ c1.length → ks.length ≤ c2.length → (∀ q, q < ks.length → V.d (j + q) = c1.getD q default) → (∀ q, q < ks.length → V.d (i + q) = c2.getD q default) →
  (Nq i j ks).all (Ad V) = C8 ks c1 c2
 | [], i, j, c1, c2, _, _, _, _, _ => by cases c1 <;> cases c2 <;> rfl
 | k :: ks, i, j, [], c2, _, h, _, _, _ => by simp at h
 | k :: ks, i, j, _ :: _, [], _, _, h, _, _ => by simp at h
 | k :: ks, i, j, a :: c1, b :: c2, hs, h1, h2, g1, g2 => by
  have ea : V.d j = a := by have := g1 0 (by simp); simpa using this
  have eb : V.d i = b := by have := g2 0 (by simp); simpa using this
  have rc := fun hs' => LI V ks (i + 1) (j + 1) c1 c2 hs' (by simpa using h1) (by simpa using h2)
   (fun q hq => by have := g1 (q + 1) (by simp; omega); rw [B8] at this; rw [← this]; congr 1; omega)
   (fun q hq => by have := g2 (q + 1) (by simp; omega); rw [B8] at this; rw [← this]; congr 1; omega)
  simp only [Nq, List.all_cons];cases k with
  | int k =>
   rw [rc hs];show (((V.d i).toInt == (V.d j).toInt) && _) = ((a.toInt == b.toInt) && _);rw [ea, eb, Bool.beq_comm]
  | bool =>
   rw [rc hs]
   have : Ad V (R1 i j .bool) = (a.toBool == b.toBool) := by
    show (!((!(((V.d i).toBool && true) && ((V.d j).toBool && true))) && (!((!((V.d i).toBool && true)) && (!((V.d j).toBool && true)))))) = _;rw [ea, eb];cases a.toBool <;> cases b.toBool <;> rfl
   rw [this];rfl
  | str =>
   rw [rc hs]
   have : Ad V (R1 i j .str) = D.strEq a b := by
    show strEq (V.d i).toStr.data.toList.length (As (V.d i).toStr.data.toList) (V.d j).toStr.data.toList.length (As (V.d j).toStr.data.toList) = _;rw [ea, eb, OP];rfl
   rw [this];rfl
  | slice e => simp [GW] at hs
theorem Rj {ρ : Ren} {j : Nat} {kd : Kd} {v : Value} {K : TypeId → Option (List Kd)} {M : Nat → Option (Array Value)} (h : DV K M kd v (U.V.d j)) : VR ρ (SC j kd) v := by
 cases h with
 | int k n _ hr e =>
  have : Ac U.V (.var j) = n := e;rw [← this];exact .si k (.var j)
 | bool b _ e =>
  have : Ad U.V (.var j) = b := e;have q := VR.sb (ρ := ρ) true (.var j);rw [this, show (b == true) = b by cases b <;> rfl] at q
  exact q
 | str s _ e =>
  have : Az U.V (.var j) = s := e;rw [← this];exact .ss (.var j)
 | _ => exact .top _
theorem IE {ρ : Ren} {K : TypeId → Option (List Kd)} {M : Nat → Option (Array Value)} : ∀ (ks : List Kd) (j : Nat) (l : List Value), l.length = ks.length → (∀ q kd, ks[q]? = some kd → DV K M kd (l.getD q Go.undef) (U.V.d (j + q))) → VL ρ (Jk j ks) l
 | [], j, [], _, _ => VL.nil ρ
 | k :: ks, j, v :: l, h, g => by
  refine VL.cons (Rj (g 0 k rfl)) (IE (K := K) (M := M) ks (j + 1) l (by simpa using h) fun q kd hq => ?_)
  have := g (q + 1) kd (by simpa using hq)
  rw [B8] at this
  rwa [show j + (q + 1) = j + 1 + q by omega] at this
theorem KO {ρ : Ren} {l : List AV} {vs : List Value} (h : VL ρ l vs) : VR ρ (Jp l) (Nt vs) := by
 cases l with
 | nil =>
  have := h.nil_inv;subst this;exact .agg [] [] h.1 h.2
 | cons a l =>
  obtain ⟨v, r, rfl, h1, h2⟩ := h.cons_inv;cases l with
  | nil =>
   have := h2.nil_inv;subst this;exact h1
  | cons b l =>
   obtain ⟨v', r', rfl, _, _⟩ := h2.cons_inv;exact .agg _ _ h.1 h.2
theorem N5 {K : TypeId → Option (List Kd)} {M : Nat → Option (Array Value)} : ∀ (ks : List Kd) (l1 l2 : List Value) (c1 c2 : List D), GW ks = true → l1.length = ks.length → l2.length = ks.length → (∀ (j : Nat) kd, ks[j]? = some kd → DV K M kd (l1.getD j Go.undef) (c1.getD j default)) → (∀ (j : Nat) kd, ks[j]? = some kd → DV K M kd (l2.getD j Go.undef) (c2.getD j default)) →
  C8 ks c1 c2 = true → l1 = l2
 | [], [], [], _, _, _, _, _, _, _, _ => rfl
 | k :: ks, v :: l1, u :: l2, [], c2, hs, h1, h2, g1, g2, h => by cases k <;> simp [C8] at h
 | k :: ks, v :: l1, u :: l2, _ :: _, [], hs, h1, h2, g1, g2, h => by cases k <;> simp [C8] at h
 | k :: ks, v :: l1, u :: l2, a :: c1, b :: c2, hs, h1, h2, g1, g2, h => by
  have rc := fun hs' hk => N5 ks l1 l2 c1 c2 hs' (by simpa using h1) (by simpa using h2)
   (fun q kd hq => by have := g1 (q + 1) kd (by simpa using hq); rwa [B8, B8] at this)
   (fun q kd hq => by have := g2 (q + 1) kd (by simpa using hq); rwa [B8, B8] at this) hk
  have d1 := g1 0 k rfl;have d2 := g2 0 k rfl;simp only [Jt] at d1 d2;cases k with
  | slice e => simp [GW] at hs
  | int k =>
   simp only [C8] at h;obtain ⟨e1, e2⟩ := Ak h;rw [rc hs e2];cases d1 with
   | int _ n1 _ _ q1 =>
    cases d2 with
    | int _ n2 _ _ q2 =>
     have : a.toInt = b.toInt := by simpa using e1
     rw [q1, q2] at this;rw [this]
  | bool =>
   simp only [C8] at h;obtain ⟨e1, e2⟩ := Ak h;rw [rc hs e2];cases d1 with
   | bool n1 _ q1 =>
    cases d2 with
    | bool n2 _ q2 =>
     have : a.toBool = b.toBool := by simpa using e1
     rw [q1, q2] at this;rw [this]
  | str =>
   simp only [C8] at h;obtain ⟨e1, e2⟩ := Ak h;rw [rc hs e2];cases d1 with
   | str n1 _ q1 =>
    cases d2 with
    | str n2 _ q2 =>
     have : a.toStr.toList = b.toStr.toList := by
      have e1' : strEq a.toStr.data.toList.length (As a.toStr.data.toList) b.toStr.data.toList.length (As b.toStr.data.toList) = true := e1;rw [B1] at e1';simpa using e1'
     have h2 : a.toStr = b.toStr := by
      rw [ByteArray.toList_eq, ByteArray.toList_eq] at this;exact ByteArray.ext (Array.toList_inj.1 this)
     rw [q1, q2] at h2;rw [h2]
theorem RN {E : Env} (hE : OK E) {ρ : Ren} {w : World} {kt : TypeId} {ks : List Kd} (ht : E3 E kt ks = true) {v1 v2 : Value} {c1 c2 : List D} {K : TypeId → Option (List Kd)} {M : Nat → Option (Array Value)} (h1 : KV K M ks v1 c1) (h2 : KV K M ks v2 c2)
  (n1 : ks.length ≤ c1.length) (n2 : ks.length ≤ c2.length) (hd1 : ∀ q, q < ks.length → U.V.d (0 + q) = c1.getD q default) (hd2 : ∀ q, q < ks.length → U.V.d (ks.length + q) = c2.getD q default) :
  (Op.equal kt v2 v1).run E.P w = .ok (C8 ks c1 c2) w ∧ (∀ ds, E.desc kt = some ds → Instr.sameNow ds v2 v1 = some (C8 ks c1 c2) ∨ ∀ u v, Instr.sameNow ds u v = none) ∧ (C8 ks c1 c2 = true → v1 = v2) := by
 unfold E3 at ht;split at ht
 ·rename_i e he;obtain ⟨s1, s2⟩ := Ak ht
  have hev : Ad U.V e = C8 ks c1 c2 := by
   rw [PZ, IX s2];exact LI U.V ks ks.length 0 c1 c2 s1 n1 n2 hd1 hd2
  obtain ⟨l1, a1, a2, a3, a4⟩ := h1;obtain ⟨l2, b1, b2, b3, b4⟩ := h2;have lt : ∀ {q : Nat} {kd : Kd}, ks[q]? = some kd → q < ks.length := fun h => (List.getElem?_eq_some_iff.1 h).1
  have r1 : VR ρ (Jp (Jk 0 ks)) v1 := by
   rw [a1];exact KO (IE (K := K) (M := M) ks 0 l1 a2 fun q kd hq => by rw [hd1 q (lt hq)]; exact a4 q kd hq)
  have r2 : VR ρ (Jp (Jk ks.length ks)) v2 := by
   rw [b1];exact KO (IE (K := K) (M := M) ks ks.length l2 b2 fun q kd hq => by rw [hd2 q (lt hq)]; exact b4 q kd hq)
  refine ⟨?_, ?_, ?_⟩
  ·have := KC (w := w) hE 10000 kt _ _ e v2 v1 he r2 r1;rw [hev] at this;exact this
  ·intro ds hd;exact Gt (d := 9999) hd he hev r2 r1
  ·intro hk;rw [a1, b1, N5 ks l1 l2 c1 c2 s1 a2 b2 a4 b4 hk]
 ·cases ht
@[reducible] def SD (U : Unk) (n : Nat) (c1 c2 : List D) : Unk where
 facts := []
 V := { d := fun i => if i < n then c1.getD i default else c2.getD (i - n) default, fn := U.V.fn }
 K := U.K
 R := U.R
 hR := U.hR
 ok := by intro e b h; cases h
theorem PS {E : Env} (hE : OK E) {w : World} {kt : TypeId} {ks : List Kd} (ht : E3 E kt ks = true) {v1 v2 : Value} {c1 c2 : List D} {K : TypeId → Option (List Kd)} {M : Nat → Option (Array Value)} (h1 : KV K M ks v1 c1) (h2 : KV K M ks v2 c2)
  (n1 : ks.length ≤ c1.length) (n2 : ks.length ≤ c2.length) :
  (Op.equal kt v2 v1).run E.P w = .ok (C8 ks c1 c2) w ∧ (∀ ds, E.desc kt = some ds → Instr.sameNow ds v2 v1 = some (C8 ks c1 c2) ∨ ∀ u v, Instr.sameNow ds u v = none) ∧ (C8 ks c1 c2 = true → v1 = v2) := by
 refine @RN (SD U ks.length c1 c2) E (@OK.mk (SD U ks.length c1 c2) E hE.ty hE.fn hE.num hE.clone hE.ixb hE.cnt hE.mixed hE.kd hE.ke) { m := fun _ => none, imm := fun _ => none } w kt ks ht v1 v2 c1 c2 K M h1 h2 n1 n2 ?_ ?_
 ·intro q hq;show (if 0 + q < ks.length then c1.getD (0 + q) default else _) = _
  rw [if_pos (by omega), Nat.zero_add]
 ·intro q hq;show (if ks.length + q < ks.length then _ else c2.getD (ks.length + q - ks.length) default) = _
  rw [if_neg (by omega), Nat.add_sub_cancel_left]
def Hu (ks : List Kd) (k : List D) : List MapEntry → List D → Nat → Option (Nat × Value)
 | e :: es, r :: rs, i => match C8 ks r.cells k with
  | true => some (i, e.val)
  | false => Hu ks k es rs (i + 1)
 | _, _, _ => none
section
variable {E : Env} (hE : OK E) {w : World} {kt : TypeId} {ks vks : List Kd} (ht : E3 E kt ks = true) {K : TypeId → Option (List Kd)} {M : Nat → Option (Array Value)} {kv : Value} {k : List D} (hk : KV K M ks kv k) (hkl : ks.length ≤ k.length)
include hE ht hk hkl w
theorem Hl : ∀ {es : List MapEntry} {rs : List D} {i : Nat}, AX K M ks vks es rs → (Instr.findAsking kt kv es i).run E.P w = .ok (Hu ks k es rs i) w
 | [], [], i, _ => by simp [Instr.findAsking, Hu]
 | e :: es, r :: rs, i, ⟨h1, h2, h3, h4⟩ => by
  obtain ⟨q, _, _⟩ := PS (w := w) hE ht h2 hk (by omega) hkl
  have rc := Hl (i := i + 1) h4;simp only [Instr.findAsking, Hu, Sem.run_bind, q, Result.andThen_ok];cases C8 ks r.cells k with
  | true => simp
  | false => simpa using rc
 | [], _ :: _, _, h => h.elim
 | _ :: _, [], _, h => h.elim
theorem Hr {ds : TypeDesc} (hd : E.desc kt = some ds) (hq : ¬ ∀ u v, Instr.sameNow ds u v = none) : ∀ {es : List MapEntry} {rs : List D} {i : Nat}, AX K M ks vks es rs → Instr.findNow ds kv es i = some (Hu ks k es rs i)
 | [], [], i, _ => rfl
 | e :: es, r :: rs, i, ⟨h1, h2, h3, h4⟩ => by
  obtain ⟨_, q, _⟩ := PS (w := w) hE ht h2 hk (by omega) hkl
  have s := (q ds hd).resolve_right hq;have rc := Hr hd hq (i := i + 1) h4;simp only [Instr.findNow, Hu, s];cases C8 ks r.cells k with
  | true => rfl
  | false => exact rc
 | [], _ :: _, _, h => h.elim
 | _ :: _, [], _, h => h.elim
theorem Es {ds : TypeDesc} (hd : E.desc kt = some ds) {es : List MapEntry} {rs : List D} (h : AX K M ks vks es rs) : (Instr.findKey kt kv es).run E.P w = .ok (Hu ks k es rs 0) w := by
 by_cases hq : ∀ u v, Instr.sameNow ds u v = none
 ·cases es with
  | nil => cases rs with
   | nil => simp [Instr.findKey, hE.run_und hd, Instr.findNow, Hu]
   | cons _ _ => exact h.elim
  | cons e es => simp [Instr.findKey, hE.run_und hd, Instr.findNow, hq, Hl (w := w) hE ht hk hkl h]
 ·simp [Instr.findKey, hE.run_und hd, Hr (w := w) hE ht hk hkl hd hq h]
end
omit U in
theorem EX {ks vks : List Kd} {K : TypeId → Option (List Kd)} {M : Nat → Option (Array Value)} {k : List D} : ∀ {es : List MapEntry} {rs : List D} (i : Nat), AX K M ks vks es rs →
  (Hu ks k es rs i = none ∧ FT ks k rs i = -1) ∨ ∃ n e r, Hu ks k es rs i = some (i + n, e.val) ∧ FT ks k rs i = ((i + n : Nat) : Int) ∧ es[n]? = some e ∧ rs[n]? = some r ∧ C8 ks r.cells k = true
 | [], [], i, _ => .inl ⟨rfl, rfl⟩
 | e :: es, r :: rs, i, ⟨h1, h2, h3, h4⟩ => by
  simp only [Hu, FT];cases hk : C8 ks r.cells k with
  | true => exact .inr ⟨0, e, r, by simp, by simp, rfl, rfl, hk⟩
  | false =>
   rcases EX (k := k) (i + 1) h4 with ⟨a, b⟩ | ⟨n, e', r', a, b, c, d, f⟩
   ·exact .inl ⟨a, b⟩
   ·exact .inr ⟨n + 1, e', r', by show Hu ks k es rs (i + 1) = _; rw [a, show i + 1 + n = i + (n + 1) by omega], by show FT ks k rs (i + 1) = _; rw [b, show i + 1 + n = i + (n + 1) by omega], by simpa using c, by simpa using d, f⟩
 | [], _ :: _, _, h => h.elim
 | _ :: _, [], _, h => h.elim
omit U in
theorem AX.get {ks vks : List Kd} {K : TypeId → Option (List Kd)} {M : Nat → Option (Array Value)} : ∀ {es : List MapEntry} {rs : List D} {n : Nat} {e : MapEntry} {r : D}, AX K M ks vks es rs → es[n]? = some e → rs[n]? = some r →
  r.cells.length = ks.length + vks.length ∧ KV K M ks e.key r.cells ∧ KV K M vks e.val (r.cells.drop ks.length)
 | e :: es, r :: rs, 0, e', r', ⟨h1, h2, h3, h4⟩, g1, g2 => by
  simp only [List.getElem?_cons_zero, Option.some.injEq] at g1 g2;subst g1; subst g2;exact ⟨h1, h2, h3⟩
 | e :: es, r :: rs, n + 1, e', r', ⟨h1, h2, h3, h4⟩, g1, g2 => h4.get (by simpa using g1) (by simpa using g2)
 | [], [], n, _, _, _, g1, _ => by simp at g1
 | [], _ :: _, _, _, _, h, _, _ => h.elim
 | _ :: _, [], _, _, _, h, _, _ => h.elim
omit U in
theorem AX.push {ks vks : List Kd} {K : TypeId → Option (List Kd)} {M : Nat → Option (Array Value)} {x : MapEntry} {y : D} (h1 : y.cells.length = ks.length + vks.length) (h2 : KV K M ks x.key y.cells) (h3 : KV K M vks x.val (y.cells.drop ks.length)) : ∀ {es : List MapEntry} {rs : List D}, AX K M ks vks es rs → AX K M ks vks (es ++ [x]) (rs ++ [y])
 | [], [], _ => ⟨h1, h2, h3, trivial⟩
 | e :: es, r :: rs, ⟨g1, g2, g3, g4⟩ => ⟨g1, g2, g3, AX.push h1 h2 h3 g4⟩
 | [], _ :: _, h => h.elim
 | _ :: _, [], h => h.elim
omit U in
theorem AX.erase {ks vks : List Kd} {K : TypeId → Option (List Kd)} {M : Nat → Option (Array Value)} : ∀ {es : List MapEntry} {rs : List D} (n : Nat), AX K M ks vks es rs → AX K M ks vks (es.eraseIdx n) (rs.eraseIdx n)
 | [], [], _, _ => by simp [AX]
 | e :: es, r :: rs, 0, ⟨g1, g2, g3, g4⟩ => g4
 | e :: es, r :: rs, n + 1, ⟨g1, g2, g3, g4⟩ => ⟨g1, g2, g3, g4.erase n⟩
 | [], _ :: _, _, h => h.elim
 | _ :: _, [], _, h => h.elim
omit U in
theorem AX.change {ks vks : List Kd} {K : TypeId → Option (List Kd)} {M : Nat → Option (Array Value)} {x : MapEntry} {y : D} (h1 : y.cells.length = ks.length + vks.length) (h2 : KV K M ks x.key y.cells) (h3 : KV K M vks x.val (y.cells.drop ks.length)) : ∀ {es es' : List MapEntry} {rs rs' : List D} (n : Nat), AX K M ks vks es rs → es'.length = es.length → rs'.length = rs.length →
  (∀ q, q ≠ n → es'[q]? = es[q]?) → (∀ q, q ≠ n → rs'[q]? = rs[q]?) → (n < es.length → es'[n]? = some x) → (n < rs.length → rs'[n]? = some y) → AX K M ks vks es' rs'
 | [], [], [], [], n, _, _, _, _, _, _, _ => trivial
 | e :: es, e' :: es', r :: rs, r' :: rs', 0, ⟨g1, g2, g3, g4⟩, l1, l2, a1, a2, a3, a4 => by
  have b1 := a3 (by simp)
  have b2 := a4 (by simp)
  simp only [List.getElem?_cons_zero, Option.some.injEq] at b1 b2;subst b1; subst b2;have c1 : es' = es := List.ext_getElem? fun q => by have := a1 (q + 1) (by omega); simpa using this
  have c2 : rs' = rs := List.ext_getElem? fun q => by have := a2 (q + 1) (by omega); simpa using this
  rw [c1, c2];exact ⟨h1, h2, h3, g4⟩
 | e :: es, e' :: es', r :: rs, r' :: rs', n + 1, ⟨g1, g2, g3, g4⟩, l1, l2, a1, a2, a3, a4 => by
  have b1 := a1 0 (by omega)
  have b2 := a2 0 (by omega)
  simp only [List.getElem?_cons_zero, Option.some.injEq] at b1 b2;subst b1; subst b2
  exact ⟨g1, g2, g3, AX.change h1 h2 h3 n g4 (by simpa using l1) (by simpa using l2) (fun q hq => by have := a1 (q + 1) (by omega); simpa using this) (fun q hq => by have := a2 (q + 1) (by omega); simpa using this)
   (fun hn => by have := a3 (by simp; omega); simpa using this) (fun hn => by have := a4 (by simp; omega); simpa using this)⟩
 | [], _ :: _, _, _, _, _, l1, _, _, _, _, _ => by simp at l1
 | _ :: _, [], _, _, _, _, l1, _, _, _, _, _ => by simp at l1
 | [], [], _ :: _, _, _, h, _, _, _, _, _, _ => h.elim
 | [], [], [], _ :: _, _, _, _, l2, _, _, _, _ => by simp at l2
 | _ :: _, _ :: _, [], _, _, h, _, _, _, _, _, _ => h.elim
 | _ :: _, _ :: _, _ :: _, [], _, _, _, l2, _, _, _, _ => by simp at l2
end
variable [U : Unk]
theorem GV {α : Type} {l : List α} {n j : Nat} {d : α} : (l.drop n).getD j d = l.getD (n + j) d := by
 rw [List.getD_eq_getElem?_getD, List.getD_eq_getElem?_getD, List.getElem?_drop]
theorem JW {α : Type} {l : List α} {n q : Nat} {f : α → α} (h : q ≠ n) : (l.modify n f)[q]? = l[q]? := by
 rw [List.getElem?_modify];cases l[q]? <;> simp [Ne.symm h]
theorem D0 {ρ : Ren} {ks : List Kd} {a : AV} {v : Value} (h : Gp ks a = true) (hv : VR ρ a v) (hl : v.cells.toList.length = ks.length) :
  v = Nt v.cells.toList ∧ ∀ u, v.cells.toList = [u] → ∀ x, u ≠ .agg x := by
 have key : ∀ (l' : List Value), l'.length ≠ 1 → Nt l' = .agg l'.toArray := by
  intro l' hl';rcases l' with _ | ⟨x, _ | ⟨y, l'⟩⟩
  ·rfl
  ·exact absurd rfl hl'
  ·rfl
 rcases ks with _ | ⟨k, _ | ⟨k2, ks⟩⟩
 ·cases hv <;> simp only [Gp, Bool.false_eq_true] at h
  rename_i l l' h1 h2;have hl0 : l'.length = 0 := hl;exact ⟨(key l' (by omega)).symm, fun u hu => by have : l' = [u] := hu; rw [this] at hl0; simp at hl0⟩
 ·cases hv <;> simp only [Gp, Bool.false_eq_true] at h <;> exact ⟨rfl, fun u hu x hx => by
   subst hx;simp only [Value.cells] at hu;cases hu⟩
 ·cases hv <;> simp only [Gp, Bool.false_eq_true] at h
  rename_i l l' h1 h2;have hl0 : l'.length = ks.length + 2 := hl;exact ⟨(key l' (by omega)).symm, fun u hu => by have : l' = [u] := hu; rw [this] at hl0; simp at hl0⟩
theorem CZ {ks : List Kd} {a : AV} (h : Gp ks a = true) : a ≠ .top := by
 rintro rfl
 rcases ks with _ | ⟨k, _ | ⟨k2, ks⟩⟩ <;> simp [Gp] at h
theorem Ka {ρ : Ren} {kks : List Kd} {k : AV} {kr : SE} {kv : Value} (h : Oj kks k = some kr) (hk : VR ρ k kv) : (Ab U.V kr).cells.length = kks.length ∧ KV U.K ρ.imm kks kv (Ab U.V kr).cells := by
 unfold Oj at h;split at h
 ·rename_i ha;obtain ⟨r1, r2, r3⟩ := DA _ _ _ _ h (hk.cells (CZ ha));obtain ⟨w1, w2⟩ := D0 ha hk r2;exact ⟨r1, _, w1, r2, w2, r3⟩
 ·cases h
theorem NP {ρ : Ren} {kks vks : List Kd} {k v : AV} {r : SE} {kv vv : Value} (h : Qr kks vks k v = some r) (hk : VR ρ k kv) (hv : VR ρ v vv) :
  (Ab U.V r).cells.length = kks.length + vks.length ∧ KV U.K ρ.imm kks kv (Ab U.V r).cells ∧ KV U.K ρ.imm vks vv ((Ab U.V r).cells.drop kks.length) := by
 unfold Qr at h;split at h
 ·rename_i hc;obtain ⟨hc, c3⟩ := Ak hc;obtain ⟨c1, c2⟩ := Ak hc;have c3 := Aq c3;have k1 := hk.cells (CZ c1);have v1 := hv.cells (CZ c2);obtain ⟨r1, r2, r3⟩ := DA _ _ _ _ h (k1.append v1);have kl : kv.cells.toList.length = kks.length := by have := k1.1; omega
  have vl : vv.cells.toList.length = vks.length := by simp only [List.length_append] at r2; omega
  obtain ⟨w1, w2⟩ := D0 c1 hk kl;obtain ⟨w3, w4⟩ := D0 c2 hv vl;refine ⟨by rw [r1]; simp, ⟨_, w1, kl, w2, fun j kd hj => ?_⟩, ⟨_, w3, vl, w4, fun j kd hj => ?_⟩⟩
  ·have hlt := (List.getElem?_eq_some_iff.1 hj).1;have := r3 j kd (by rw [List.getElem?_append_left hlt]; exact hj)
   rwa [List.getD_eq_getElem?_getD, List.getElem?_append_left (by omega), ← List.getD_eq_getElem?_getD] at this
  ·have hlt := (List.getElem?_eq_some_iff.1 hj).1;have := r3 (kks.length + j) kd (by rw [List.getElem?_append_right (by omega), Nat.add_sub_cancel_left]; exact hj)
   rw [List.getD_eq_getElem?_getD, List.getElem?_append_right (by omega), kl, Nat.add_sub_cancel_left, ← List.getD_eq_getElem?_getD] at this
   rw [GV];exact this
 ·cases h
theorem Jn {a r : SE} : (Ab U.V (.snoc a r)).rows = (Ab U.V a).rows ++ [Ab U.V r] := rfl
theorem IS {ρ : Ren} {kks vks : List Kd} : ∀ {es : List An} {es' : List MapEntry} {y z : SE} {es0 : List MapEntry}, I2 kks vks y es = some z → ER ρ es es' → AX U.K ρ.imm kks vks es0 (Ab U.V y).rows → AX U.K ρ.imm kks vks (es0 ++ es') (Ab U.V z).rows
 | [], [], y, z, es0, h, _, hm => by
  simp only [I2, Option.some.injEq] at h;subst h;simpa using hm
 | e :: es, e' :: es', y, z, es0, h, ⟨h1, h2, h3, h4⟩, hm => by
  simp only [I2] at h;split at h
  ·rename_i x hx;obtain ⟨q1, q2, q3⟩ := NP hx h1 h2;have := IS (es0 := es0 ++ [e']) h h4 (by rw [Jn]; exact AX.push q1 q2 q3 hm)
   simpa using this
  ·cases h
 | [], _ :: _, _, _, _, _, h, _ => h.elim
 | _ :: _, [], _, _, _, _, h, _ => h.elim
theorem NC {ρ : Ren} {kt vt : TypeId} {kks vks : List Kd} {b : Option Ag} {x : SE} {base : B9} {o : Option Obj} (h : QC kt vt kks vks b = some x) (hb : ∀ y, b = some y → BR ρ y base o) (hk : U.K kt = some kks) (hv : U.K vt = some vks) :
  ∃ es' : List MapEntry, ∃ clock, o = some (.map es'.toArray clock) ∧ AX U.K ρ.imm kks vks es' (Ab U.V x).rows := by
 unfold QC at h;split at h
 ·rename_i kt' vt' x';split at h
  ·rename_i hc;cases h;obtain ⟨c1, c2⟩ := Ak hc;have c1 := Aq c1;have c2 := Aq c2;subst c1; subst c2;obtain ⟨k1, v1, es', clock, e1, e2, e3, e4⟩ := hb _ rfl;rw [hk] at e1; rw [hv] at e2;cases e1; cases e2;exact ⟨es', clock, e3, e4⟩
  ·cases h
 ·rename_i es clock;obtain ⟨es', e1, e2⟩ := hb _ rfl;have := IS (es0 := []) h e2 trivial;exact ⟨es', clock, e1, by simpa using this⟩
 ·cases h
theorem Iz {a i : SE} {j : Nat} {x : SE} : (Ab U.V (.upd a i j x)).rows = (Ab U.V a).rows.modify (Ac U.V i).toNat fun r => .row (r.cells.set j (Ab U.V x)) := rfl
theorem G4 {ρ : Ren} {ks : List Kd} {i : SE} : ∀ (l : List AV) (vs : List Value) (j : Nat) (y y' : SE) (r : D), Cu i ks y j l = some y' → VL ρ l vs → (Ab U.V y).rows[(Ac U.V i).toNat]? = some r → j + l.length ≤ r.cells.length →
  (Ab U.V y').rows.length = (Ab U.V y).rows.length ∧ (∀ q, q ≠ (Ac U.V i).toNat → (Ab U.V y').rows[q]? = (Ab U.V y).rows[q]?) ∧
  ∃ r', (Ab U.V y').rows[(Ac U.V i).toNat]? = some r' ∧ r'.cells.length = r.cells.length ∧ (∀ p, p < j ∨ j + l.length ≤ p → r'.cells.getD p default = r.cells.getD p default) ∧
   ∀ (q : Nat) kd, q < l.length → ks[j + q]? = some kd → DV U.K ρ.imm kd (vs.getD q Go.undef) (r'.cells.getD (j + q) default)
 | [], vs, j, y, y', r, h, hv, hr, hj => by
  simp only [Cu, Option.some.injEq] at h;subst h;exact ⟨rfl, fun _ _ => rfl, r, hr, rfl, fun _ _ => rfl, fun q kd hq => absurd hq (Nat.not_lt_zero q)⟩
 | a :: l, vs, j, y, y', r, h, hv, hr, hj => by
  obtain ⟨v, vr, rfl, h1, h2⟩ := hv.cons_inv;simp only [Cu] at h;split at h
  ·rename_i k hk;split at h
   ·rename_i x hx;have dv := HC h1 hx
    have hset : (Ab U.V (.upd y i j x)).rows[(Ac U.V i).toNat]? = some (.row (r.cells.set j (Ab U.V x))) := by
     rw [Iz, List.getElem?_modify_eq, hr]; rfl
    simp only [List.length_cons] at hj;obtain ⟨a1, a2, r', a3, a4, a5, a6⟩ := G4 l vr (j + 1) _ y' _ h h2 hset (by show j + 1 + l.length ≤ (r.cells.set j (Ab U.V x)).length; simp; omega)
    have hcells : (D.row (r.cells.set j (Ab U.V x))).cells = r.cells.set j (Ab U.V x) := rfl;rw [hcells] at a4 a5;refine ⟨by rw [a1, Iz]; simp, fun q hq => by rw [a2 q hq, Iz, JW hq], r', a3, by rw [a4]; simp, fun p hp => ?_, fun q kd hq hkd => ?_⟩
    ·simp only [List.length_cons] at hp;rw [a5 p (by omega), List.getD_eq_getElem?_getD, List.getD_eq_getElem?_getD, List.getElem?_set_ne (by omega)]
    ·cases q with
     | zero =>
      rw [Nat.add_zero] at hkd ⊢;rw [hk] at hkd;cases hkd;rw [a5 j (by omega), Jt, List.getD_eq_getElem?_getD, List.getElem?_set_self (by omega)]
      exact dv
     | succ q =>
      rw [B8, show j + (q + 1) = j + 1 + q by omega]
      exact a6 q kd (by simpa using hq) (by rw [← hkd]; congr 1; omega)
   ·cases h
  ·cases h
theorem HV {E : Env} (hE : OK E) {t kt vt : TypeId} {kks vks : List Kd} (h : JM E t = some (kt, vt, kks, vks)) : E.desc t = some (.map kt vt) ∧ U.K kt = some kks ∧ U.K vt = some vks ∧ E3 E kt kks = true := by
 unfold JM at h;split at h
 ·rename_i kt' vt' hd;split at h
  ·rename_i a b h1 h2;split at h
   ·rename_i hk;cases h;exact ⟨hd, by rw [hE.kd, ← hE.ke]; exact h1, by rw [hE.kd, ← hE.ke]; exact h2, hk⟩
   ·cases h
  ·cases h
 ·cases h
theorem FA {E : Env} {kt : TypeId} {k : AV} (hkk : Bj E 20 kt k = true) : ∃ ds, E.desc kt = some ds := by
 simp only [Bj] at hkk;cases hq : E.desc kt with
 | none => simp [hq] at hkk
 | some ds => exact ⟨ds, rfl⟩
section
variable {E : Env} (hE : OK E) {ρ : Ren} {h : Aa} {w : World}
include hE
theorem M4 (hr : HR ρ h.blk.get w) {t : TypeId} {m k a : AV} {mv kv : Value} {ok : Bool} (hm : VR ρ m mv) (hk : VR ρ k kv) (ha : Kb E t m k ok h = some a) :
  ∃ v, (Instr.lookup t mv kv ok).run E.P w = .ok v w ∧ VR ρ a v := by
 unfold Kb at ha;split at ha
 ·rename_i kt vt kks vks r ht;obtain ⟨hd, hkk, hvk, htest⟩ := HV hE ht;split at ha
  ·rename_i kt' vt' x hg;split at ha
   ·rename_i z kr hc hz hkr;obtain ⟨hc, c3⟩ := Ak hc;obtain ⟨c1, c2⟩ := Ak hc;have c1 := Aq c1;have c2 := Aq c2;subst c1; subst c2;obtain ⟨zv, z1, z2⟩ := hE.run_zero ρ hz w;have hzr := Ax ρ z2;have hck : ∀ em, (Instr.checkKey em 10000 kt kv).run E.P w = .ok () w := fun em => CH (w := w) hE em 9980 20 kt k kv c3 hk
    obtain ⟨ds, hkd⟩ := FA c3;obtain ⟨kl, kkv⟩ := Ka hkr hk
    have fin : ∀ (v : AV) (b : Bool) (vv : Value), VR ρ v vv → VR ρ (I9 ok v b) (if ok then .tuple #[vv, .bool b] else vv) := by
     intro v b vv hv;cases ok with
     | true =>
      have := VL.cons hv (VL.cons (VR.bool (ρ := ρ) b) (VL.nil ρ));exact .tuple _ [vv, .bool b] this.1 this.2
     | false => exact hv
    cases hm with
    | map _ base hb =>
     obtain ⟨k1, v1, es', clock, e1, e2, e3, e4⟩ := hr.blk r base _ hb hg;rw [hkk] at e1; rw [hvk] at e2;cases e1; cases e2;have hget : (getObj base.cb).run E.P w = .ok (.map es'.toArray clock) w := by simp [getObj, Sem.run, e3]
     have hfind := Es (w := w) hE htest kkv (by omega) hkd e4
     have spec := EX (k := (Ab U.V kr).cells) 0 e4;have hidx : Ac U.V (.mIdx kks x kr) = FT kks (Ab U.V kr).cells (Ab U.V x).rows 0 := rfl;split at ha
     ·rename_i hdec;cases ha;have hlt := Al U.ok hdec;rw [Am, decide_eq_true_eq] at hlt;have z0 : Ac U.V (.c 0) = 0 := rfl;rw [z0, hidx] at hlt;rcases spec with ⟨a1, a2⟩ | ⟨n, e, r', a1, a2, a3⟩
      ·rw [a1] at hfind;refine ⟨_, ?_, fin z false zv hzr⟩;simp [Instr.lookup, hE.run_und hd, hget, hck, hfind, z1]
      ·omega
     ·rename_i hdec;split at ha
      ·rename_i l hcl;cases ha;have hlt := Al U.ok hdec;rw [Am, decide_eq_false_iff_not] at hlt;have z0 : Ac U.V (.c 0) = 0 := rfl;rw [z0, hidx] at hlt;rcases spec with ⟨a1, a2⟩ | ⟨n, e, r', a1, a2, a3, a4, a5⟩
       ·omega
       ·rw [a1] at hfind;obtain ⟨q1, ⟨lk, k1, k2, k3, k4⟩, ⟨lv, v1, v2, v3, v4⟩⟩ := e4.get a3 a4;have hn : (Ac U.V (.mIdx kks x kr)).toNat = n := by rw [hidx, a2]; simp
        have hrow : (Ab U.V x).rows.getD n default = r' := by rw [List.getD_eq_getElem?_getD, a4]; rfl
        have hcell : ∀ j, Ab U.V (.cell x (.mIdx kks x kr) j) = r'.cells.getD j default := by
         intro j;show ((Ab U.V x).rows.getD (Ac U.V (.mIdx kks x kr)).toNat default).cells.getD j default = _;rw [hn, hrow]
        have harr : ∀ p, ((lk ++ lv).toArray).getD p Go.undef = (lk ++ lv).getD p Go.undef := by intro p; simp [Array.getD_eq_getD_getElem?, List.getD_eq_getElem?_getD]
        have hv : ∀ j kd, (kks ++ vks)[j]? = some kd → DV U.K ρ.imm kd ((lk ++ lv).toArray.getD (0 + j) Go.undef) (Ab U.V (.cell x (.mIdx kks x kr) j)) := by
         intro j kd hj;rw [hcell, harr, Nat.zero_add, List.getD_eq_getElem?_getD];by_cases hjl : j < kks.length
         ·rw [List.getElem?_append_left hjl] at hj;rw [List.getElem?_append_left (by omega), ← List.getD_eq_getElem?_getD]
          exact k4 j kd hj
         ·rw [List.getElem?_append_right (by omega)] at hj
          rw [List.getElem?_append_right (by omega), ← List.getD_eq_getElem?_getD, k2]
          have := v4 (j - kks.length) kd hj;rw [GV, show kks.length + (j - kks.length) = j by omega] at this
          exact this
        obtain ⟨p1, p2, p3⟩ := FE hv vks.length kks.length l hcl
        have hvl : VL ρ l lv := by
         refine ⟨by omega, fun q a v hqa hqv => ?_⟩
         have := p3 q a hqa;rw [harr, Nat.zero_add, List.getD_eq_getElem?_getD, List.getElem?_append_right (by omega), k2, Nat.add_sub_cancel_left, hqv] at this
         exact this
        have hres := KO hvl;rw [← v1] at hres;refine ⟨_, ?_, fin _ true e.val hres⟩;simp [Instr.lookup, hE.run_und hd, hget, hck, hfind]
      ·cases ha
     ·cases ha
   ·cases ha
  ·cases ha
 ·cases ha
theorem Mn (hr : HR ρ h.blk.get w) {t : TypeId} {m k v : AV} {mv kv vv : Value} {h' : Aa} (hm : VR ρ m mv) (hk : VR ρ k kv) (hv : VR ρ v vv) (ha : Kt E t m k v h = some h') :
  ∃ w', (Instr.mapUpdate t mv kv vv).run E.P w = .ok () w' ∧ HR ρ h'.blk.get w' ∧ Ext ρ ρ h h' w w' := by
 unfold Kt at ha;split at ha
 ·rename_i kt vt kks vks r ht;obtain ⟨hd, hkk, hvk, htest⟩ := HV hE ht;split at ha
  ·rename_i x kr c3 hdm hkr;have hck : ∀ em, (Instr.checkKey em 10000 kt kv).run E.P w = .ok () w := fun em => CH (w := w) hE em 9980 20 kt k kv c3 hk
   obtain ⟨ds, hkd⟩ := FA c3;obtain ⟨kl, kkv⟩ := Ka hkr hk;cases hm with
   | map _ base hb =>
    have hlive : h.blk.get r ≠ none := by
     intro e;rw [e] at hdm;cases hdm
    obtain ⟨es', clock, e3, e4⟩ := NC hdm (fun y hy => hr.blk r base y hb hy) hkk hvk
    have hget := Ao (w := w) E.P e3 (by simp)
    have hfind := Es (w := w) hE htest kkv (by omega) hkd e4
    have spec := EX (k := (Ab U.V kr).cells) 0 e4;have hidx : Ac U.V (.mIdx kks x kr) = FT kks (Ab U.V kr).cells (Ab U.V x).rows 0 := rfl;split at ha
    ·rename_i row hrow hdec;cases ha;have hlt := Al U.ok hdec;rw [Am, decide_eq_true_eq] at hlt;have z0 : Ac U.V (.c 0) = 0 := rfl;rw [z0, hidx] at hlt;rcases spec with ⟨a1, a2⟩ | ⟨n, e, r', a1, a2, a3⟩
     ·rw [a1] at hfind;obtain ⟨q1, q2, q3⟩ := NP hrow hk hv;obtain ⟨p1, p2⟩ := hr.setObj hb hlive (.dmap kt vt (.snoc x row)) (.map (es'.toArray.push { key := kv, val := vv, born := clock }) (clock + 1))
       ⟨kks, vks, es' ++ [{ key := kv, val := vv, born := clock }], clock + 1, hkk, hvk, by simp, by rw [Jn]; exact AX.push q1 q2 q3 e4⟩
      refine ⟨_, ?_, p1, p2⟩;simp [Instr.mapUpdate, hE.run_und hd, hget, hck, hfind, Aw (w := w) E.P e3 (by simp)]
     ·omega
    ·rename_i row hrow hdec;split at ha
     ·rename_i y hy;cases ha;have hlt := Al U.ok hdec;rw [Am, decide_eq_false_iff_not] at hlt;have z0 : Ac U.V (.c 0) = 0 := rfl;rw [z0, hidx] at hlt;rcases spec with ⟨a1, a2⟩ | ⟨n, e, r', a1, a2, a3, a4, a5⟩
      ·omega
      ·rw [a1] at hfind;have hn : (Ac U.V (.mIdx kks x kr)).toNat = n := by rw [hidx, a2]; simp
       obtain ⟨q1, q2, q3⟩ := e4.get a3 a4;obtain ⟨_, _, hkeq⟩ := PS (w := w) hE htest q2 kkv (by omega) (by omega)
       have hke : e.key = kv := hkeq a5;unfold Qr at hrow;split at hrow
       ·rename_i hc;obtain ⟨hc, c6⟩ := Ak hc;obtain ⟨c4, c5⟩ := Ak hc;have vcs := hv.cells (CZ c5);have hrl := DA _ _ _ _ hrow ((hk.cells (CZ c4)).append vcs);have c6 := Aq c6;have kcl := (hk.cells (CZ c4)).1;have vl : vv.cells.toList.length = vks.length := by have := hrl.2.1; simp only [List.length_append] at this; omega
        have vl2 : v.cells.length = vks.length := by have := vcs.1; omega
        obtain ⟨u1, u2, r2, u3, u4, u5, u6⟩ := G4 _ _ _ _ _ r' hy vcs (by rw [hn]; exact a4) (by omega)
        rw [hn] at u2 u3;obtain ⟨w3, w4⟩ := D0 c5 hv vl;obtain ⟨nk, w1, s1, s2, s3, s4, s5, s6⟩ := CN (w := w) E.P e.key kv;have hnk : nk = e.key := by rcases s2 with rfl | rfl; exact hke.symm; rfl
        subst hnk;have hr1 : HR ρ h.blk.get w1 := hr.same s3
        have kv2 : KV U.K ρ.imm kks e.key r2.cells := by
         obtain ⟨lk, k1, k2, k3, k4⟩ := q2;refine ⟨lk, k1, k2, k3, fun j kd hj => ?_⟩
         have hlt := (List.getElem?_eq_some_iff.1 hj).1;rw [u5 j (.inl hlt)];exact k4 j kd hj
        have vv2 : KV U.K ρ.imm vks vv (r2.cells.drop kks.length) := by
         refine ⟨_, w3, vl, w4, fun j kd hj => ?_⟩
         have hlt := (List.getElem?_eq_some_iff.1 hj).1;rw [GV];exact u6 j kd (by omega) (by rw [List.getElem?_append_right (by omega), Nat.add_sub_cancel_left]; exact hj)
        have hnl : n < es'.length := (List.getElem?_eq_some_iff.1 a3).1
        have hmap : AX U.K ρ.imm kks vks (es'.modify n fun e0 => { e0 with key := e.key, val := vv }) (Ab U.V y).rows := by
         refine AX.change (x := { key := e.key, val := vv, born := e.born }) (y := r2) (by rw [u4]; exact q1) kv2 vv2 n e4 (by simp) u1 (fun q hq => JW hq) (fun q hq => u2 q hq) (fun _ => by rw [List.getElem?_modify_eq, a3]; rfl) (fun _ => u3)
        obtain ⟨p1, p2⟩ := hr1.setObj hb hlive (.dmap kt vt y) (.map (es'.toArray.modify n fun e0 => { e0 with key := e.key, val := vv }) clock)
         ⟨kks, vks, _, clock, hkk, hvk, by simp [List.modify_toArray], hmap⟩
        refine ⟨_, ?_, p1, p2.drawn s3 s4 s5 s6⟩;have e1' : w1.heap[base.cb]? = some (.map es'.toArray clock) := by rw [s3]; exact e3
        simp only [Nat.zero_add] at hfind;simp only [Instr.mapUpdate, Sem.run_bind, hE.run_und hd, Result.andThen_ok, hget, hck, hfind, List.getElem?_toArray, a3, Option.map_some, Option.getD_some, s1];rw [Aw (w := w1) E.P e1' (by simp)]
       ·cases hrow
     ·cases ha
    ·cases ha
  ·cases ha
 ·cases ha
theorem Mc (hr : HR ρ h.blk.get w) {t : TypeId} {m k v : AV} {mv kv vv : Value} {h' : Aa} (hm : VR ρ m mv) (hk : VR ρ k kv) (hv : VR ρ v vv) (ha : Ke E t m k v h = some h') :
  ∃ w', (Instr.mapUpdate t mv kv vv).run E.P w = .ok () w' ∧ HR ρ h'.blk.get w' ∧ Ext ρ ρ h h' w w' := by
 unfold Ke at ha;split at ha
 ·split at ha
  ·rename_i q;cases ha;exact Mn hE hr hm hk hv q
  ·exact FP hE hr hm hk hv ha
 ·exact FP hE hr hm hk hv ha
theorem Mu (hr : HR ρ h.blk.get w) {t ty : TypeId} {m k : AV} {mv kv : Value} {h' : Aa} (hm : VR ρ m mv) (hk : VR ρ k kv) (ha : KT E t m k h = some h') (ats : Array TypeId) (hat : ats[0]? = some t) :
  ∃ w', (Builtin.delete_ ats ty #[mv, kv]).run E.P w = .ok (.tuple #[]) w' ∧ HR ρ h'.blk.get w' ∧ Ext ρ ρ h h' w w' := by
 unfold KT at ha;split at ha
 ·rename_i kt vt kks vks r ht;obtain ⟨hd, hkk, hvk, htest⟩ := HV hE ht;split at ha
  ·rename_i x kr c3 hdm hkr;have hck : ∀ em, (Instr.checkKey em 10000 kt kv).run E.P w = .ok () w := fun em => CH (w := w) hE em 9980 20 kt k kv c3 hk
   obtain ⟨ds, hkd⟩ := FA c3;obtain ⟨kl, kkv⟩ := Ka hkr hk;cases hm with
   | map _ base hb =>
    have hlive : h.blk.get r ≠ none := by
     intro e;rw [e] at hdm;cases hdm
    obtain ⟨es', clock, e3, e4⟩ := NC hdm (fun y hy => hr.blk r base y hb hy) hkk hvk
    have hget := Ao (w := w) E.P e3 (by simp)
    have hfind := Es (w := w) hE htest kkv (by omega) hkd e4
    have spec := EX (k := (Ab U.V kr).cells) 0 e4;have hidx : Ac U.V (.mIdx kks x kr) = FT kks (Ab U.V kr).cells (Ab U.V x).rows 0 := rfl;split at ha
    ·rename_i hdec;cases ha;have hlt := Al U.ok hdec;rw [Am, decide_eq_true_eq] at hlt;have z0 : Ac U.V (.c 0) = 0 := rfl;rw [z0, hidx] at hlt;rcases spec with ⟨a1, a2⟩ | ⟨n, e, r', a1, a2, a3⟩
     ·rw [a1] at hfind;obtain ⟨p1, p2⟩ := hr.setObj hb hlive (.dmap kt vt x) (.map es'.toArray clock) ⟨kks, vks, es', clock, hkk, hvk, rfl, e4⟩;refine ⟨_, ?_, p1, p2⟩;simp [Builtin.delete_, hat, hE.run_und hd, hget, hck, hfind, Aw (w := w) E.P e3 (by simp)]
     ·omega
    ·rename_i hdec;cases ha;have hlt := Al U.ok hdec;rw [Am, decide_eq_false_iff_not] at hlt;have z0 : Ac U.V (.c 0) = 0 := rfl;rw [z0, hidx] at hlt;rcases spec with ⟨a1, a2⟩ | ⟨n, e, r', a1, a2, a3, a4, a5⟩
     ·omega
     ·rw [a1] at hfind;have hn : (Ac U.V (.mIdx kks x kr)).toNat = n := by rw [hidx, a2]; simp
      have hrm : (Ab U.V (.rmv x (.mIdx kks x kr))).rows = (Ab U.V x).rows.eraseIdx n := by
       show (Ab U.V x).rows.eraseIdx (Ac U.V (.mIdx kks x kr)).toNat = _;rw [hn]
      obtain ⟨p1, p2⟩ := hr.setObj hb hlive (.dmap kt vt (.rmv x (.mIdx kks x kr))) (.map (es'.toArray.eraseIdxIfInBounds n) clock) ⟨kks, vks, es'.eraseIdx n, clock, hkk, hvk, by simp, by rw [hrm]; exact e4.erase n⟩
      refine ⟨_, ?_, p1, p2⟩;simp only [Nat.zero_add] at hfind;simp [Builtin.delete_, hat, hE.run_und hd, hget, hck, hfind, Aw (w := w) E.P e3 (by simp)]
    ·cases ha
  ·cases ha
 ·cases ha
theorem Md (hr : HR ρ h.blk.get w) {t ty : TypeId} {m k : AV} {mv kv : Value} {h' : Aa} (hm : VR ρ m mv) (hk : VR ρ k kv) (ha : KP E t m k h = some h') (ats : Array TypeId) (hat : ats[0]? = some t) :
  ∃ w', (Builtin.delete_ ats ty #[mv, kv]).run E.P w = .ok (.tuple #[]) w' ∧ HR ρ h'.blk.get w' ∧ Ext ρ ρ h h' w w' := by
 unfold KP at ha;split at ha
 ·rename_i q;cases ha;exact MK hE hr hm hk q ats hat
 ·exact Mu hE hr hm hk ha ats hat
theorem MH {h : Aa} (hr : HR ρ h.blk.get w) {t : TypeId} {m k a : AV} {mv kv : Value} {ok : Bool} (hm : VR ρ m mv) (hk : VR ρ k kv) (ha : KD E t m k ok h = some a) :
  ∃ v, (Instr.lookup t mv kv ok).run E.P w = .ok v w ∧ VR ρ a v := by
 unfold KD at ha;split at ha
 ·rename_i r hl;cases ha;exact M6 hE hr hm hk hl
 ·split at ha
  ·rename_i r hl;cases ha;exact M4 hE hr hm hk hl
  split at ha
  ·rename_i kt et r hd _ _;split at ha
   ·rename_i z es clock hkk hz hg;obtain ⟨zv, z1, z2⟩ := hE.run_zero ρ hz w;have hzr := Ax ρ z2;have hck : ∀ em, (Instr.checkKey em 10000 kt kv).run E.P w = .ok () w := fun em => CH (w := w) hE em 9980 20 kt k kv hkk hk
    have hkd : ∃ ds, E.desc kt = some ds := by
     simp only [Bj] at hkk;cases hq : E.desc kt with
     | none => simp [hq] at hkk
     | some ds => exact ⟨ds, rfl⟩
    obtain ⟨ds, hkd⟩ := hkd
    have fin : ∀ (v : AV) (b : Bool) (vv : Value), VR ρ v vv → VR ρ (I9 ok v b) (if ok then .tuple #[vv, .bool b] else vv) := by
     intro v b vv hv;cases ok with
     | true =>
      have := VL.cons hv (VL.cons (VR.bool (ρ := ρ) b) (VL.nil ρ));exact .tuple _ [vv, .bool b] this.1 this.2
     | false => exact hv
    cases hm with
    | map _ base hb =>
     obtain ⟨es', e1, e2⟩ := hr.blk r base _ hb hg;have hget : (getObj base.cb).run E.P w = .ok (.map es'.toArray clock) w := by simp [getObj, Sem.run, e1]
     split at ha
     ·rename_i i v hf;cases ha;obtain ⟨r', q1, q2⟩ := Hd (w := w) hE hkd hk e2 hf;cases r' with
      | none => cases q1
      | some p' =>
       obtain ⟨j, vv⟩ := p';refine ⟨_, ?_, fin v true vv q1.2⟩;simp [Instr.lookup, hE.run_und hd, hget, hck, q2]
     ·rename_i hf;cases ha;obtain ⟨r', q1, q2⟩ := Hd (w := w) hE hkd hk e2 hf;cases r' with
      | some p => cases q1
      | none =>
       refine ⟨_, ?_, fin z false zv hzr⟩;simp [Instr.lookup, hE.run_und hd, hget, hck, q2, z1]
     ·cases ha
   ·cases ha
  ·cases ha
end
end Go.AE
namespace Go.AE
variable [U : Unk]
omit U in
theorem EQ : ∀ (l b : Nat), (CC l b).length = l
 | 0, _ => rfl
 | l + 1, b => by simp [CC, EQ l]
theorem JV {e : SE} (h : KQ e = true) : (Az U.V e).data.toList.length < 4611686018427387904 := by
 unfold KQ at h;split at h
 ·rename_i l b;have := Cf h
  have e : (Az U.V (.strc l b)).data.toList.length = l := by
   show ((CC l b).toArray).toList.length = l;simp [EQ]
  omega
 ·have := Gl h;rw [Am, decide_eq_true_eq, Cr] at this;have z : Ac U.V (.c 4611686018427387904) = 4611686018427387904 := rfl;rw [z] at this;omega
section
variable {E : Env} (hE : OK E) {ρ : Ren} {h : Aa} {w : World}
omit U in
theorem Sf [U : Unk] {t : TypeId} {s s' : ByteArray} (h1 : s.data.toList.length < 4611686018427387904) (h2 : s'.data.toList.length < 4611686018427387904) : (binOp .add t (.string s) (.string s')).run E.P w = .ok (.string (s ++ s')) w := by
 have hsz : s.size = s.data.toList.length := by simp
 have hsz' : s'.size = s'.data.toList.length := by simp
 have hmax : ¬ (((s.size + s'.size : Nat) : Int) > IntKind.i64.max) := by
  simp only [IntKind.max, IntKind.signed, IntKind.bits]; omega
 simp only [binOp, Op.stringOp];rw [if_neg hmax];rfl
theorem QT {op : BinOp} {t : TypeId} {ox oy : Operand} {x y r : AV} {xv yv : Value} (hx : VR ρ x xv) (hy : VR ρ y yv) (hr : R3 op x y = some r) :
  ∃ v, (do eqGuard op t ox oy xv yv; binOp op t xv yv : Sem Value).run E.P w = .ok v w ∧ VR ρ r v := by
 unfold R3 at hr;split at hr
 ·split at hr
  ·rename_i a b ha hb;split at hr
   ·rename_i hc;cases hr;obtain ⟨c1, c2⟩ := Ak hc;rw [E6 hx ha, E6 hy hb];have hg : (eqGuard .add t ox oy (.string (Az U.V a)) (.string (Az U.V b))).run E.P w = .ok () w := Bl (by simp) (fun h _ => by obtain ⟨xs, h⟩ := h; cases h)
    refine ⟨.string (Az U.V a ++ Az U.V b), ?_, .ss (.strCat a b)⟩;simp only [Sem.run_bind, hg, Result.andThen_ok];exact Sf (JV c1) (JV c2)
   ·cases hr
  ·cases hr
 ·cases hr
theorem QV {L : SE} {n k : Nat} (h : RJ L n = some k) (h0 : 0 ≤ Ac U.V L) : k = min (Ac U.V L).toNat n := by
 unfold RJ at h;split at h
 ·rename_i hd;cases h;have := Al U.ok hd;rw [Am, decide_eq_false_iff_not] at this;have z : Ac U.V (.c (n : Int)) = n := rfl;rw [z] at this;omega
 ·rename_i hd;have := Al U.ok hd;rw [Am, decide_eq_true_eq] at this;have z : Ac U.V (.c (n : Int)) = n := rfl;rw [z] at this;split at h
  ·rename_i l hh hb;split at h
   ·rename_i hc;cases h;obtain ⟨c1, c2⟩ := Ak hc;have c1 : l = hh := by simpa using c1
    have c2 : 0 ≤ l := by simpa using c2
    subst c1;obtain ⟨b1, b2⟩ := Er U.ok L;rw [hb] at b1 b2;have e1 := b1 l rfl;have e2 := b2 l rfl;omega
   ·cases h
  ·cases h
 ·cases h
theorem Ds {y : SE} {kd : Kd} : ∀ (n i : Nat), (D1 y kd i n).length = n
 | 0, _ => rfl
 | n + 1, i => by simp [D1, Ds n]
theorem IW {y : SE} {kd : Kd} : ∀ (n i q : Nat), q < n → (D1 y kd i n)[q]? = some (G1 y (.c (i + q : Nat)) 0 kd)
 | 0, _, q, h => absurd h (Nat.not_lt_zero q)
 | n + 1, i, 0, h => rfl
 | n + 1, i, q + 1, h => by
  simp only [D1, List.getElem?_cons_succ];rw [IW n (i + 1) q (by omega), show i + 1 + q = i + (q + 1) by omega]
theorem K4 {kd : Kd} {y : SE} {cur : Array Value} {o k : Nat} (hr : AU U.K ρ.imm [kd] cur o (Ab U.V y).rows) (hk : k ≤ (Ab U.V y).rows.length) : VL ρ (D1 y kd 0 k) ((cur.toList.drop o).take k) := by
 have h1 := hr.1;simp only [List.length_singleton, Nat.mul_one] at h1;refine ⟨by rw [Ds]; simp; omega, fun q a v ha hv => ?_⟩
 have hq : q < k := by have := (List.getElem?_eq_some_iff.1 ha).1; rwa [Ds] at this
 rw [IW k 0 q hq, Nat.zero_add] at ha;cases ha;have hd := hr.2.2 q 0 kd (by omega) rfl
 rw [List.getElem?_take, if_pos hq, List.getElem?_drop, Array.getElem?_toList] at hv;simp only [List.length_singleton, Nat.mul_one, Nat.add_zero] at hd;rw [Array.getD_eq_getD_getElem?, hv] at hd;exact GO hd
include hE
theorem Pz (hr : HR ρ h.blk.get w) {t t' ty : TypeId} {d x a : AV} {dv xv : Value} {h' : Aa} (hdv : VR ρ d dv) (hx : VR ρ x xv) (ha : P9 E t d x h = some (a, h')) (ats : Array TypeId) (hat : ats[0]? = some t) :
  AG E ρ h h' w (Builtin.copy_ ats ty #[dv, xv]) a := by
 unfold P9 at ha;split at ha
 ·rename_i r hq;cases ha;exact PT hE hr (t' := t) hdv hx hq ats hat
 ·split at ha
  ·rename_i e hd;split at ha
   ·rename_i kd b off n es y hk hsz hs _;split at ha
    ·rename_i k hes hfix;split at ha
     ·rename_i h2 hst;cases ha;have hes := Aq hes;subst hes
      have hk2 : U.K e = some [kd] := by
       rw [hE.kd, ← hE.ke];revert hk;cases E.kinds e with
       | none => intro hk; cases hk
       | some l => cases l with
        | nil => intro hk; cases hk
        | cons p l => cases l with
         | nil => intro hk; cases hk; rfl
         | cons _ _ => intro hk; cases hk
      have hfx := QV hfix (by rw [Ah]; exact Int.natCast_nonneg _)
      rw [Ah, Int.toNat_natCast] at hfx
      obtain ⟨vs, s1, s2, s3⟩ : ∃ vs : List Value, VL ρ (D1 y kd 0 k) vs ∧ (Builtin.lenOf xv).run E.P w = .ok (Ab U.V y).rows.length w ∧ (Builtin.firstCells 1 k xv).run E.P w = .ok vs.toArray w := by
       unfold Mb at hs;split at hs
       ·rename_i e' y';split at hs
        ·rename_i he;cases hs;have he := Aq he;subst he;cases hx with
         | dat _ _ ad n' cap hdv2 =>
          cases hdv2 with
          | nil _ _ g1 g2 =>
           rw [g2] at hfx;have : k = 0 := by simpa using hfx
           subst this;exact ⟨[], VL.nil ρ, by rw [g2]; simp [Builtin.lenOf], by simp [Builtin.firstCells]⟩
          | empty _ a1 _ _ g1 g2 =>
           rw [g2] at hfx;have : k = 0 := by simpa using hfx
           subst this;exact ⟨[], VL.nil ρ, by rw [g2]; simp [Builtin.lenOf], by simp [Builtin.firstCells, Go.loadCells, loadCellsFrom]⟩
          | slc _ b' o _ _ _ ks arr hk' ha' hn hc' g1 hin hrow hv =>
           rw [hk2] at hk';cases hk';obtain ⟨e1, fz, hb⟩ := hr.imm b' arr ha';have hrows : AU U.K ρ.imm [kd] arr o (Ab U.V y).rows := ⟨by rw [hn]; exact hin, fun i hi => hrow i (by omega), fun i j kd' hi hj => hv i j kd' (by omega) hj⟩
           have hkle : k ≤ (Ab U.V y).rows.length := by rw [hfx]; exact Nat.min_le_left _ _
           refine ⟨_, K4 hrows hkle, by rw [hn]; simp [Builtin.lenOf], ?_⟩
           simp only [Builtin.firstCells, Nat.mul_one];simp only [List.length_singleton, Nat.mul_one] at hin;exact Au E.P w b' o k arr e1 fz hb (by omega)
        ·cases hs
       ·rename_i b' es' n' nl _;split at hs
        ·rename_i e' y' hb;split at hs
         ·rename_i hc;cases hs;obtain ⟨c12, c3⟩ := Ak hc;obtain ⟨c1, c2⟩ := Ak c12;have c1 := Aq c1;have c2 := Aq c2;subst c1; subst c2;have hfl := DY c3;rw [Ah] at hfl;have hkle : k ≤ (Ab U.V y).rows.length := by rw [hfx]; exact Nat.min_le_left _ _
          cases hx with
          | asl _ _ _ _ cap base hρ q0 qc qz qn =>
           obtain ⟨ks', cur, et, fz, b1, b2, b3, b4, b5⟩ := hr.blk b' base _ hρ hb;rw [hk2] at b1;cases b1;refine ⟨_, K4 b5 hkle, by rw [hfl]; simp [Builtin.lenOf], ?_⟩
           simp only [Builtin.firstCells, Nat.mul_one];have := b5.1;simp only [List.length_singleton, Nat.mul_one] at this;exact Au E.P w base.cb base.co k cur et fz b2 (by omega)
          | aslEnd _ _ _ _ ad q0 qn =>
           have hz : (Ab U.V y).rows.length = 0 := by rw [q0] at hfl; omega
           have : k = 0 := by omega
           subst this;refine ⟨[], VL.nil ρ, by rw [hz]; simp [Builtin.lenOf], ?_⟩
           cases ad with
           | none => simp [Builtin.firstCells]
           | some ad => simp [Builtin.firstCells, Go.loadCells, loadCellsFrom]
         ·cases hs
        ·cases hs
       ·cases hs
      cases hdv with
      | slice _ _ _ _ cap base hb hcap hz =>
       obtain ⟨w', q1, q2, q3⟩ := hr.storeN E.P hb s1 hst;refine ⟨ρ, goInt (k : Nat), w', ?_, .int _ _, q2, q3⟩;unfold Builtin.copy_;have hm : Nat.min (Ab U.V y).rows.length n = k := hfx.symm;simp only [hat, List.getElem?_toArray, List.getElem?_cons_zero, List.getElem?_cons_succ, Sem.run_bind, hE.run_und hd, Result.andThen_ok, s2, hE.run_szIs hsz, hm, s3, q1];simp
      | sliceEnd _ _ _ ad =>
       have hk0 : k = 0 := by rw [hfx]; simp
       subst hk0;have := s1.nil_inv;subst this;have hm : Nat.min (Ab U.V y).rows.length 0 = 0 := Nat.min_zero _
       obtain ⟨q2, q3⟩ : HR ρ h'.blk.get w ∧ Ext ρ ρ h h' w w := by
        unfold storeN at hst;simp only [D1] at hst;split at hst
        ·rename_i sz c hg;split at hst
         ·cases hst;refine hr.swap (by rw [hg]; exact Option.some_ne_none _) _ (fun base hρ => ?_)
          exact hr.blk b base _ hρ hg
         ·cases hst
        ·cases hst
       refine ⟨ρ, goInt (0 : Nat), w, ?_, .int _ _, q2, q3⟩;unfold Builtin.copy_;simp only [hat, List.getElem?_toArray, List.getElem?_cons_zero, List.getElem?_cons_succ, Sem.run_bind, hE.run_und hd, Result.andThen_ok, s2, hE.run_szIs hsz, hm, s3];simp [storeCells]
     ·cases ha
    ·cases ha
   ·cases ha
  ·cases ha
end
end Go.AE
namespace Go.AE
variable [U : Unk]
section
variable {E : Env} (hE : OK E) {ρ : Ren} {h : Aa} {w : World}
theorem L6 {s : Sem Unit} {why : String} {o : Option Aa} (ho : ∀ h', o = some h' → ∃ σ w', s.run E.P w = .ok () w' ∧ HR σ h'.blk.get w' ∧ Ext ρ σ h h' w w') :
  Df E ρ h w (do s; pure .skip) (D8 why o) := by
 cases o with
 | none => trivial
 | some h' =>
  intro hf;obtain ⟨σ, w', q1, q2, q3⟩ := ho h' rfl;exact ⟨σ, Go.undef, w', .inr ⟨by simp [q1], rfl⟩, VR.undef σ, q2, q3⟩
theorem H8 {s : Sem Value} {why : String} {o : Option Aa} (ho : ∀ h', o = some h' → ∃ w', s.run E.P w = .ok (.tuple #[]) w' ∧ HR ρ h'.blk.get w' ∧ Ext ρ ρ h h' w w') :
  Df E ρ h w (do pure (.value (← s))) (D8 why o) := by
 cases o with
 | none => trivial
 | some h' =>
  intro hf;obtain ⟨w', q1, q2, q3⟩ := ho h' rfl;exact ⟨ρ, Go.undef, w', .inl (by simp [q1, Go.undef]), VR.undef ρ, q2, q3⟩
theorem Rk {ats : Array TypeId} {ty : TypeId} {args : List AV} {args' : List Value} {a : AV} (ha : VL ρ args args') (hq : S5 args = some a) : ∃ v, (Builtin.max_ ats ty args'.toArray).run E.P w = .ok v w ∧ VR ρ a v := by
 cases args with
 | nil => cases hq
 | cons x r =>
  obtain ⟨v, r', rfl, hv, hl⟩ := ha.cons_inv;cases hv <;> first | (cases hq; done) | skip
  obtain ⟨u, q1, q2⟩ := M8 E.P w _ hl hq;exact ⟨u, by simpa [Builtin.max_] using q1, q2⟩
theorem Rd {ats : Array TypeId} {ty : TypeId} {args : List AV} {args' : List Value} {a : AV} (ha : VL ρ args args') (hq : SI args = some a) : ∃ v, (Builtin.min_ ats ty args'.toArray).run E.P w = .ok v w ∧ VR ρ a v := by
 cases args with
 | nil => cases hq
 | cons x r =>
  obtain ⟨v, r', rfl, hv, hl⟩ := ha.cons_inv;cases hv <;> first | (cases hq; done) | skip
  obtain ⟨u, q1, q2⟩ := M0 E.P w _ hl hq;exact ⟨u, by simpa [Builtin.min_] using q1, q2⟩
include hE
theorem OS (hr : HR ρ h.blk.get w) {t ty : TypeId} {x : AV} {xv : Value} {h' : Aa} (hx : VR ρ x xv) (ha : MF E t x h = some h') (ats : Array TypeId) (hat : ats[0]? = some t) :
  ∃ w', (Builtin.clear_ ats ty #[xv]).run E.P w = .ok (.tuple #[]) w' ∧ HR ρ h'.blk.get w' ∧ Ext ρ ρ h h' w w' := by
 unfold MF at ha;cases hd : E.desc t with
 | none => rw [hd] at ha; cases ha
 | some d =>
  rw [hd] at ha;have hu := hE.run_und hd w;simp only [] at ha;cases hx <;> first | (cases ha; done) | skip
  ·simp only [Option.some.injEq] at ha;subst ha;exact ⟨w, by cases d <;> simp [Builtin.clear_, hat, hu], hr, Ext.refl ρ h w⟩
  ·rename_i b off n es cap base hb hcap hz;cases n with
   | zero =>
    simp only [Option.some.injEq] at ha;subst ha;exact ⟨w, by cases d <;> simp [Builtin.clear_, hat, hu], hr, Ext.refl ρ h w⟩
   | succ n =>
    cases d <;> first | (cases ha; done) | skip
    rename_i e;simp only [] at ha;cases hzz : E.zero e with
    | none => rw [hzz] at ha; cases ha
    | some z =>
     rw [hzz] at ha;simp only [] at ha;cases hzl : Nat.beq z.cells.length es with
     | false => rw [hzl] at ha; cases ha
     | true =>
      rw [hzl] at ha;simp only [] at ha;have hzl' := Aq hzl;obtain ⟨zv, z1, z2⟩ := hE.run_zero ρ hzz w;have zc := (Ax ρ z2).cells (A1 z2);have hv := Db zc (n + 1) zv.cells (.inr rfl);obtain ⟨w', q1, q2, q3⟩ := hr.storeN E.P hb hv ha;refine ⟨w', ?_, q2, q3⟩;have hzs : zv.cells.size = z.cells.length := by have := zc.1; simp at this; omega
      have e0 : (Builtin.zeroCells zv.cells (n + 1)).toList = ((Array.range ((n + 1) * z.cells.length)).map (zv.cells[· % zv.cells.size]!)).toList := by
       rw [Builtin.zeroCells, hzs]
      simp only [Builtin.clear_, hat, List.getElem?_toArray, List.getElem?_cons_zero, Sem.run_bind, hu, Result.andThen_ok, z1, e0, q1, Sem.run_pure]
  ·rename_i b off es ad;simp only [Option.some.injEq] at ha;subst ha;exact ⟨w, by cases d <;> simp [Builtin.clear_, hat, hu], hr, Ext.refl ρ h w⟩
  ·rename_i b base hb;simp only [] at ha;cases hg : h.blk.get b with
   | none => rw [hg] at ha; cases ha
   | some y =>
    rw [hg] at ha;cases y <;> first | (cases ha; done) | skip
    ·rename_i es clock;simp only [Option.some.injEq] at ha;subst ha;obtain ⟨es', e1, e2⟩ := hr.blk b base _ hb hg;have hget := Ao (w := w) E.P e1 (by simp)
     obtain ⟨p1, p2⟩ := hr.setObj hb (by rw [hg]; simp) (.map [] clock) (.map #[] clock) ⟨[], rfl, trivial⟩
     refine ⟨_, ?_, p1, p2⟩;cases d <;> simp [Builtin.clear_, hat, hu, hget, Aw (w := w) E.P e1 (by simp)]
    ·rename_i kt vt x;simp only [Option.some.injEq] at ha;subst ha;obtain ⟨kks, vks, es', clock, k1, k2, e1, e2⟩ := hr.blk b base _ hb hg;have hget := Ao (w := w) E.P e1 (by simp)
     obtain ⟨p1, p2⟩ := hr.setObj hb (by rw [hg]; simp) (.dmap kt vt .emptyL) (.map #[] clock) ⟨kks, vks, [], clock, k1, k2, rfl, trivial⟩
     refine ⟨_, ?_, p1, p2⟩;cases d <;> simp [Builtin.clear_, hat, hu, hget, Aw (w := w) E.P e1 (by simp)]
theorem La (hr : HR ρ h.blk.get w) {b : Builtin} {ats : Array TypeId} {ty : TypeId} {consts : Array Bool} {args : List AV} {args' : List Value} (ha : VL ρ args args') :
  Df E ρ h w (builtin b ats ty consts args'.toArray) (IQ E b ats.toList args h) := by
 unfold IQ;split
 ·rename_i t ts x xs hts;obtain ⟨v, r, rfl, hv, hl⟩ := ha.cons_inv;have hat : ats[0]? = some t := by rw [← Array.getElem?_toList, hts]; rfl
  exact AM hr fun a hq => Q5 hE hr hv hq ats hat _ (by simp)
 ·rename_i t t' s x hts;obtain ⟨v, r, rfl, hv, hl⟩ := ha.cons_inv;obtain ⟨v2, r2, rfl, hv2, hl2⟩ := hl.cons_inv;have := hl2.nil_inv;subst this;have hats : ats = #[t, t'] := by cases ats; simp_all
  subst hats;exact A6 fun a h' hq hf => Kp hE hr hv hv2 hq hf (fun a h' hq hf => It hE hr hv hv2 hq hf)
 ·rename_i t ts d x hts;obtain ⟨v, r, rfl, hv, hl⟩ := ha.cons_inv;obtain ⟨v2, r2, rfl, hv2, hl2⟩ := hl.cons_inv;have := hl2.nil_inv;subst this;have hat : ats[0]? = some t := by rw [← Array.getElem?_toList, hts]; rfl
  exact A6 fun a h' hq hf => Pz hE hr (t' := t) hv hv2 hq ats hat
 ·rename_i t ts m k hts;obtain ⟨v, r, rfl, hv, hl⟩ := ha.cons_inv;obtain ⟨v2, r2, rfl, hv2, hl2⟩ := hl.cons_inv;have := hl2.nil_inv;subst this;have hat : ats[0]? = some t := by rw [← Array.getElem?_toList, hts]; rfl
  exact H8 fun h' hq => Md hE hr hv hv2 hq ats hat
 ·exact AM hr fun a hq => by
   unfold orA at hq;split at hq
   ·rename_i hm; cases hq; exact Rk ha hm
   ·exact Ph ha hq
 ·exact AM hr fun a hq => by
   unfold orA at hq;split at hq
   ·rename_i hm; cases hq; exact Rd ha hm
   ·exact PI ha hq
 ·exact ⟨rfl, by simp [builtin]⟩
 ·obtain ⟨v, r, rfl, hv, hl⟩ := ha.cons_inv;have := hl.nil_inv;subst this;have hv' := hv;cases hv;exact ⟨rfl, _, hv', by simp [builtin, Instr.panic]⟩
 ·rename_i t x hts;obtain ⟨v, r, rfl, hv, hl⟩ := ha.cons_inv;have := hl.nil_inv;subst this;have hat : ats[0]? = some t := by rw [← Array.getElem?_toList, hts]; rfl
  exact H8 fun h' hq => OS hE hr hv hq ats hat
 ·trivial
theorem Oc (hr : HR ρ h.blk.get w) {tmps : T AV} {ev : Operand → Value} (hev : EvR ρ tmps ev) (c : Call) (ty : TypeId) :
  Df E ρ h w (do let d ← resolve ev c ty; invoke d.target d.args) (MZ E tmps c h) := by
 have hargs := hev.list c.args.toList;have hmap : (c.args.map ev) = (c.args.toList.map ev).toArray := by apply Array.ext'; simp
 unfold MZ;cases hc : c.callee with
 | builtin b =>
  have e : ∃ cs, (do let d ← resolve ev c ty; invoke d.target d.args) = builtin b c.argTypes ty cs (c.args.toList.map ev).toArray :=
   ⟨_, by simp only [resolve, hc, pure_bind, invoke, hmap]; rfl⟩
  obtain ⟨cs, e⟩ := e;rw [e];exact La (w := w) hE hr (b := b) (ats := c.argTypes) (ty := ty) (consts := cs) hargs
 | invoke r name =>
  have := C1 (w := w) hE hr (fn := .method name) (fn' := .method name) (captured := []) (captured' := []) rfl (VL.nil ρ) (VL.cons (hev r) hargs)
  have e : (do let d ← resolve ev c ty; invoke d.target d.args) = invoke (.fn (.method name) #[]) (ev r :: c.args.toList.map ev).toArray := by
   simp only [resolve, hc, pure_bind, hmap]
   congr 1
   simp
  rw [e];exact this
 | value f =>
  simp only [];have hf := hev f;cases hv : Af tmps f with
  | func fn first captured =>
   rw [hv] at hf;cases hvf : ev f with
   | func fn' first' captured' =>
    rw [hvf] at hf;cases hf with
    | func _ _ _ _ f' c' q1 q2 q3 q4 q5 =>
     have := C1 (w := w) hE hr q1 (captured := captured) (captured' := c') ⟨q4, q5⟩ (VL.append (l := first) (l' := f') ⟨q2, q3⟩ hargs)
     have e : (do let d ← resolve ev c ty; invoke d.target d.args) = invoke (.fn fn' c'.toArray) (f' ++ c.args.toList.map ev).toArray := by
      simp only [resolve, hc, hvf, Deferred.ofValue, pure_bind, hmap]
      congr 1
      simp
     rw [e];exact this
   | _ => rw [hvf] at hf; cases hf
  | _ => trivial
omit hE in
theorem L5 {tmps : T AV} {ev : Operand → Value} (hev : EvR ρ tmps ev) (c : Call) (ty : TypeId) :
  Df E ρ h w (do pure (.defer (← resolve ev c ty))) (ES tmps c h) := by
 have hargs := hev.list c.args.toList;have hmap : (c.args.map ev) = (c.args.toList.map ev).toArray := by apply Array.ext'; simp
 unfold ES;cases hc : c.callee with
 | value f =>
  simp only [];have hf := hev f;cases hv : Af tmps f with
  | func fn first captured =>
   rw [hv] at hf;cases hvf : ev f with
   | func fn' first' captured' =>
    rw [hvf] at hf;cases hf with
    | func _ _ _ _ f' c' q1 q2 q3 q4 q5 =>
     refine ⟨rfl, { target := .fn fn' c'.toArray, args := (f' ++ c.args.toList.map ev).toArray }, ?_, ?_⟩
     ·exact ⟨fn', c', f' ++ c.args.toList.map ev, q1, ⟨q4, q5⟩, VL.append (l := first) (l' := f') ⟨q2, q3⟩ hargs, rfl⟩
     ·simp [resolve, hc, hvf, Deferred.ofValue, hmap]
   | _ => rw [hvf] at hf; cases hf
  | _ => trivial
 | _ => trivial
end
end Go.AE
namespace Go.AE
variable [U : Unk]
section
variable {E : Env} (hE : OK E) {ρ : Ren} {h : Aa} {w : World}
include hE
omit hE in
theorem Bn (hr : HR ρ h.blk.get w) {s : Sem Next} {a : AV} {v : Value} (hs : s.run E.P w = .ok (.value v) w) (hv : VR ρ a v) : Df E ρ h w s (.val a h) :=
 fun _ => ⟨ρ, v, w, .inl hs, hv, hr, Ext.refl ρ h w⟩
omit hE in
theorem FL {tmps : T AV} {ev : Operand → Value} (hev : EvR ρ tmps ev) (o : Option Operand) : (∀ a, AO tmps o = some a → ∃ v, o.map ev = some v ∧ VR ρ a v) ∧ (AO tmps o = none → o.map ev = none) := by
 cases o with
 | none => exact ⟨(fun a h => by cases h), fun _ => rfl⟩
 | some x => exact ⟨fun a h => by simp only [AO, Option.some.injEq] at h; subst h; exact ⟨ev x, rfl, hev x⟩, (fun h => by cases h)⟩
theorem S3 {t : TypeId} {ms : Array (String × TypeId)} (hd : E.desc t = some (.interface ms)) (d : Nat) : (Op.equalIn (d + 1) t .nilIface .nilIface).run E.P w = .ok true w := by
 simp [Op.equalIn, hE.run_und hd]
theorem Ip (hr : HR ρ h.blk.get w) {tmps : T AV} {ev : Operand → Value} (hev : EvR ρ tmps ev) (o : Oper) : Df E ρ h w (execOp ev o) (aop E tmps h o.op) := by
 unfold execOp aop;cases hop : o.op with
 | move x => exact Bn hr (by simp) (hev x)
 | assign x => exact Bn hr (by simp) (hev x)
 | pick c a b =>
  simp only [];have hc := hev c;cases hv : Af tmps c with
  | bool t =>
   rw [hv] at hc;cases hvc : ev c with
   | bool t' =>
    rw [hvc] at hc;cases hc;cases t with
    | true => exact Bn hr (by simp [asBool]) (hev a)
    | false => exact Bn hr (by simp [asBool]) (hev b)
   | _ => rw [hvc] at hc; cases hc
  | sb pos e =>
   rw [hv] at hc;simp only [];split
   ·rename_i q hq;have hd := Al U.ok hq;cases hvc : ev c with
    | bool t' =>
     rw [hvc] at hc;cases hc;rw [hd];split
     ·rename_i hp; rw [hp]; exact Bn hr (by simp [asBool]) (hev a)
     ·rename_i hp; rw [hp]; exact Bn hr (by simp [asBool]) (hev b)
    | _ => rw [hvc] at hc; cases hc
   ·trivial
  | _ => trivial
 | alloc t =>
  simp only [];cases hz : E.zero t with
  | none => trivial
  | some z =>
   intro hf;obtain ⟨σ, v, w', q1, q2, q3, q4⟩ := O7 hE hr (hf h.nx (Nat.le_refl _) (by simp [A7, Aa.new])) hz
   exact ⟨σ, v, w', .inl (by simp [q1]), q2, q3, q4⟩
 | box t x =>
  simp only [];cases ht : (Af tmps x).isTop with
  | true => trivial
  | false =>
   intro hf;obtain ⟨σ, v, w', q1, q2, q3, q4⟩ := RK (E := E) (t := t) hr (hf h.nx (Nat.le_refl _) (by simp [A7, Aa.new])) (hev x) (by rintro e; rw [e] at ht; cases ht)
   exact ⟨σ, v, w', .inl (by simp [q1]), q2, q3, q4⟩
 | build t ps =>
  have hp := hev.parts ps.toList;have hmap : (ps.map fun (i, x) => (i, ev x)) = (ps.toList.map fun (i, x) => (i, ev x)).toArray := by apply Array.ext'; simp
  simp only [hmap];exact AM hr fun a hq => OA hE hp hq
 | buildSlice t len ps =>
  have hp := hev.parts ps.toList;have hmap : (ps.map fun (i, x) => (i, ev x)) = (ps.toList.map fun (i, x) => (i, ev x)).toArray := by apply Array.ext'; simp
  simp only [hmap];exact A6 fun a h' hq hf => HX hE hr hp hq hf
 | load t a => exact AM hr fun x hq => Pi hE hr (hev a) hq
 | store t a x => exact L6 fun h' hq => Ly hE hr (hev a) (hev x) hq
 | nilCheck x =>
  simp only [];have hx := hev x;cases hv : Af tmps x <;> try trivial
  all_goals (rw [hv] at hx)
  ·cases hvx : ev x <;> rw [hvx] at hx <;> cases hx
   exact Bn hr rfl (.ptr _ _ _ (by assumption))
  ·rename_i fn f c;cases fn <;> try trivial
   ·cases hvx : ev x with
    | func fn' f' c' =>
     rw [hvx] at hx;cases hx with
     | func _ _ _ _ f' c' q1 q2 q3 q4 q5 =>
      have q1' := q1;simp only [FnR] at q1;subst q1;exact Bn hr rfl (.func _ _ _ _ _ _ q1' q2 q3 q4 q5)
    | _ => rw [hvx] at hx; cases hx
   ·cases hvx : ev x with
    | func fn' f' c' =>
     rw [hvx] at hx;cases hx with
     | func _ _ _ _ f' c' q1 q2 q3 q4 q5 =>
      have q1' := q1;obtain ⟨base, hb, rfl⟩ := q1;exact Bn hr rfl (.func _ _ _ _ _ _ q1' q2 q3 q4 q5)
    | _ => rw [hvx] at hx; cases hx
  ·cases hvx : ev x <;> rw [hvx] at hx <;> cases hx
   exact Bn hr rfl (.iface _ _ _ (by assumption))
 | binOp op t x y ty =>
  refine AM hr fun a hq => ?_
  unfold SP at hq;cases hsy : ((Af tmps x).isSym || (Af tmps y).isSym) with
  | true =>
   rw [hsy] at hq;simp only [] at hq;split at hq
   ·rename_i r hr0;cases hq;exact RZ hE (hev x) (hev y) hr0
   ·split at hq
    ·rename_i r hr0;cases hq;exact QT (hev x) (hev y) hr0
    ·exact QH (hev x) (hev y) hq
  | false =>
  rw [hsy] at hq;simp only [] at hq;cases hn : ((Af tmps x).isNil && (Af tmps y).isNil) with
  | false =>
   rw [hn] at hq;simp only [] at hq;split at hq
   ·rename_i r hr0;cases hq;exact N7 hE (hev x) (hev y) hr0
   ·exact Pj hE (hev x) (hev y) hq
  | true =>
   rw [hn] at hq;simp only [] at hq;obtain ⟨n1, n2⟩ := Ak hn
   have e1 : Af tmps x = .nilIface := by
    generalize Af tmps x = a at n1;cases a <;> first | rfl | cases n1
   have e2 : Af tmps y = .nilIface := by
    generalize Af tmps y = a at n2;cases a <;> first | rfl | cases n2
   have v1 := hev x;have v2 := hev y;rw [e1] at v1;rw [e2] at v2;generalize hx : ev x = xv at v1;generalize hy : ev y = yv at v2;cases v1;cases v2;cases hc : (Region.isConst x || Region.isConst y) with
   | false => rw [hc] at hq; cases hq
   | true =>
    rw [hc] at hq;cases hd : E.desc t with
    | none => rw [hd] at hq; cases hq
    | some d =>
     rw [hd] at hq;cases d <;> first | (cases hq; done) | skip
     have hu := hE.run_und hd w
     have hg : (eqGuard op t x y .nilIface .nilIface).run E.P w = .ok () w := by
      unfold eqGuard;rcases orF hc with q | q
      ·cases x <;> simp only [Region.isConst, Bool.false_eq_true] at q
       cases op <;> simp
      ·cases y <;> simp only [Region.isConst, Bool.false_eq_true] at q
       cases op <;> cases x <;> simp
     have heq : (Op.equal t .nilIface .nilIface).run E.P w = .ok true w := S3 hE hd 9999;have hb1 : binOp .eql t .nilIface .nilIface = (do pure (.bool (← Op.equal t .nilIface .nilIface))) := rfl
     have hb2 : binOp .neq t .nilIface .nilIface = (do pure (.bool (!(← Op.equal t .nilIface .nilIface)))) := rfl
     cases op <;> first | (cases hq; done) | skip
     ·simp only [Option.some.injEq] at hq;subst hq;exact ⟨.bool true, by rw [hb1]; simp only [Sem.run_bind, hg, Result.andThen_ok, heq, Sem.run_pure], .bool _⟩
     ·simp only [Option.some.injEq] at hq;subst hq;exact ⟨.bool false, by rw [hb2]; simp only [Sem.run_bind, hg, Result.andThen_ok, heq, Sem.run_pure, Bool.not_true], .bool _⟩
 | unOp op t x => exact AM hr fun a hq => R2 (hev x) hq
 | convert s d x => exact A6 fun a h' hq hf => Qx hE hr (hev x) hq hf
 | makeInterface t x =>
  simp only [];cases hd : E.desc t with
  | none => trivial
  | some d =>
   cases d <;> first | trivial | exact Bn hr (by simp [Instr.makeInterface, hE.run_und hd]) (.iface t _ _ (hev x))
 | makeFunc fn first captured =>
  have h1 := hev.list first.toList;have h2 := hev.list captured.toList;have e1 : first.map ev = (first.toList.map ev).toArray := by apply Array.ext'; simp
  have e2 : captured.map ev = (captured.toList.map ev).toArray := by apply Array.ext'; simp
  cases fn with
  | yield l => trivial
  | _ => exact Bn hr (by simp only [Instr.makeFunc, Sem.run_bind, Sem.run_pure, Result.andThen_ok, e1, e2]) (.func _ _ _ _ _ _ rfl h1.1 h1.2 h2.1 h2.2)
 | makeMap t r =>
  have mk : ∀ {s : Sem Next}, s.run E.P w = .ok (.value (.map (some w.heap.size))) { w with heap := w.heap.push (.map #[] 0) } → Df E ρ h w s (.val (.map h.nx) (h.new (.map [] 0))) := by
   intro s hs hf;have hfree : ρ h.nx = none := hf h.nx (Nat.le_refl _) (by simp [Aa.new])
   obtain ⟨p1, p2⟩ := hr.new hfree (.map [] 0) (.map #[] 0) 0 ⟨[], rfl, trivial⟩ { w with heap := w.heap.push (.map #[] 0) } rfl rfl rfl rfl
   exact ⟨_, _, _, .inl hs, .map h.nx _ (Ren.upd_same _ _ _), p1, p2⟩
  cases r with
  | none => exact mk (by simp [Instr.makeMap])
  | some r =>
   simp only [];have hx := hev r;cases hd : E.desc t with
   | none => trivial
   | some d =>
    cases d <;> try trivial
    cases hv : Af tmps r <;> try trivial
    rw [hv] at hx;cases hvx : ev r <;> rw [hvx] at hx <;> cases hx
    exact mk (by simp [Instr.makeMap, hvx, hE.run_und hd, asInt, asIntOf])
 | makeSlice t l c => exact A6 fun a h' hq hf => I7 hE hr (hev l) (hev c) hq hf
 | slice t x lo hi mx =>
  refine A6 fun a h' hq hf => ?_
  obtain ⟨a1, a2⟩ := FL hev lo;obtain ⟨b1, b2⟩ := FL hev hi;obtain ⟨c1, c2⟩ := FL hev mx
  have hmh : AO tmps mx ≠ none → AO tmps hi ≠ none := by
   cases mx with
   | none => intro q; exact absurd rfl q
   | some m => cases hi with
    | none => cases hq
    | some i => intro _ q; cases q
  have hq' : sliceB E t (Af tmps x) (AO tmps lo) (AO tmps hi) (AO tmps mx) h = some (a, h') := by
   cases mx <;> cases hi <;> first | exact hq | cases hq
  exact OR hE hr (hev x) a1 a2 b1 b2 c1 c2 hmh hq'
 | fieldAddr t x f => exact AM hr fun a hq => Jc hE (hev x) hq
 | field t x f => exact AM hr fun a hq => OT hE (hev x) hq
 | indexAddr t x i => exact AM hr fun a hq => Ja hE (hev x) (hev i) hq
 | index t x i => exact AM hr fun a hq => Og hE (hev x) (hev i) hq
 | lookup t m k ok => exact AM hr fun a hq => MH hE hr (hev m) (hev k) hq
 | mapUpdate t m k v => exact G0 fun h' hq => Mc hE hr (hev m) (hev k) (hev v) hq
 | insert t m k v => exact G0 fun h' hq => FP hE hr (hev m) (hev k) (hev v) hq
 | mapEntry t m k => exact A6 fun a h' hq hf => OD hE hr (hev m) (hev k) hq
 | entryStore t m s v => exact G0 fun h' hq => ID hr (hev m) (hev s) (hev v) hq
 | range t x => exact A6 fun a h' hq hf => OU hE hr (hev x) hq hf
 | next it isS => exact A6 fun a h' hq hf => O0 hr (hev it) hq
 | entry it => exact AM hr fun a hq => Jd hr (hev it) hq
 | typeAssert x xt t ok => exact AM hr fun a hq => Nh hE (hev x) hq
 | extract t i =>
  simp only [];have hx := hev t;cases hv : Af tmps t <;> try trivial
  rw [hv] at hx;cases hvx : ev t <;> rw [hvx] at hx <;> cases hx
  rename_i l l' h1 h2;refine AM hr fun a hq => ?_
  obtain ⟨v, q1, q2⟩ := VL.get (l := l) (l' := l') ⟨h1, h2⟩ hq;exact ⟨v, by simp [Instr.extract, q1], q2⟩
 | call c => exact Oc hE hr hev c o.type
 | defer c => exact L5 hev c o.type
 | panic x =>
  simp only [];have hx := hev x;cases hv : Af tmps x <;> try trivial
  rw [hv] at hx;cases hvx : ev x <;> rw [hvx] at hx <;> cases hx
  exact ⟨rfl, _, .iface _ _ _ (by assumption), by simp [Instr.panic]⟩
 | _ => trivial
end
end Go.AE
namespace Go.AE
variable [U : Unk]
section
variable {P : Program} {fr : Frame} {k : List Item} {cs : List Frame} {w : World}
theorem Sp {a b : Code} (hm : fr.mode = .run) (ht : fr.todo = .code (.seq a b) :: k) : step P (lone fr cs w) = .next (lone { fr with todo := .code a :: .code b :: k } cs w) :=
 step_lone_go (by cases fr; simp only at hm ht; subst hm; subst ht; simp [stepG, stepG.exec])
theorem QE (hm : fr.mode = .run) (ht : fr.todo = .code .skip :: k) : step P (lone fr cs w) = .next (lone { fr with todo := k } cs w) :=
 step_lone_go (by cases fr; simp only at hm ht; subst hm; subst ht; simp [stepG, stepG.exec])
theorem O3 {l : Nat} (hm : fr.mode = .run) (ht : fr.todo = .code (.label l) :: k) : step P (lone fr cs w) = .next (lone { fr with todo := k } cs w) :=
 step_lone_go (by cases fr; simp only at hm ht; subst hm; subst ht; simp [stepG, stepG.exec])
theorem Nd {l : Nat} (hm : fr.mode = .run) (ht : fr.todo = .inBlock l :: k) : step P (lone fr cs w) = .next (lone { fr with todo := k } cs w) :=
 step_lone_go (by cases fr; simp only at hm ht; subst hm; subst ht; simp [stepG, stepG.exec])
theorem MX {l : Code} (hm : fr.mode = .run) (ht : fr.todo = .inScope l :: k) : step P (lone fr cs w) = .next (lone { fr with todo := k } cs w) :=
 step_lone_go (by cases fr; simp only at hm ht; subst hm; subst ht; simp [stepG, stepG.exec])
theorem Hy {c : Operand} {x y : Code} {b : Bool} (hm : fr.mode = .run) (ht : fr.todo = .code (.cond c x y) :: k) (hc : fr.eval c = .bool b) : step P (lone fr cs w) = .next (lone { fr with todo := .code (if b then x else y) :: k } cs w) :=
 step_lone_go (by cases fr; simp only at hm ht; subst hm; subst ht; simp [stepG, stepG.exec, hc])
theorem Qb {id : Nat} {c : Code} (hm : fr.mode = .run) (ht : fr.todo = .code (.block id c) :: k) : step P (lone fr cs w) = .next (lone { fr with todo := .code c :: .inBlock id :: k } cs w) :=
 step_lone_go (by cases fr; simp only at hm ht; subst hm; subst ht; simp [stepG, stepG.exec])
theorem Q3 {c : Code} (hm : fr.mode = .run) (ht : fr.todo = .code (.loop c) :: k) : step P (lone fr cs w) = .next (lone { fr with todo := .code c :: .inLoop c :: k } cs w) :=
 step_lone_go (by cases fr; simp only at hm ht; subst hm; subst ht; simp [stepG, stepG.exec])
theorem Ob {c : Code} (hm : fr.mode = .run) (ht : fr.todo = .inLoop c :: k) : step P (lone fr cs w) = .next (lone { fr with todo := .code c :: .inLoop c :: k } cs w) :=
 step_lone_go (by cases fr; simp only at hm ht; subst hm; subst ht; simp [stepG, stepG.exec])
theorem PY {c : Code} (hm : fr.mode = .run) (ht : fr.todo = .code (.scope c) :: k) : step P (lone fr cs w) = .next (lone { fr with todo := .code c :: .inScope c :: k } cs w) :=
 step_lone_go (by cases fr; simp only at hm ht; subst hm; subst ht; simp [stepG, stepG.exec])
theorem Om {id : Nat} {ops : Array Oper} (hm : fr.mode = .run) (ht : fr.todo = .code (.region id ops false) :: k) : step P (lone fr cs w) = .next (lone { fr with todo := .inRegion ops (List.range ops.size) :: k } cs w) :=
 step_lone_go (by cases fr; simp only at hm ht; subst hm; subst ht; simp [stepG, stepG.exec])
theorem QO {id : Nat} {ops : Array Oper} (hm : fr.mode = .run) (ht : fr.todo = .code (.region id ops true) :: k) :
  step P (lone fr cs w) = .next (lone { fr with todo := .inRegion ops (Region.schedule (P.follows .mixedOrders) ops (w.tape w.drawn (.order fr.fn id))) :: k } cs { w with drawn := w.drawn + 1 }) :=
 step_lone_go (by cases fr; simp only at hm ht; subst hm; subst ht; simp [stepG, stepG.exec, choose, Sem.run, Question.forced, Question.cut])
theorem Gw {ops : Array Oper} (hm : fr.mode = .run) (ht : fr.todo = .inRegion ops [] :: k) : step P (lone fr cs w) = .next (lone { fr with todo := k } cs w) :=
 step_lone_go (by cases fr; simp only at hm ht; subst hm; subst ht; simp [stepG, stepG.exec])
theorem Q0 {id : Nat} {k' : List Item} (hm : fr.mode = .run) (ht : fr.todo = .code (.exit id) :: k) (hk : exitTo id k = some k') : step P (lone fr cs w) = .next (lone { fr with todo := k' } cs w) :=
 step_lone_go (by cases fr; simp only at hm ht; subst hm; subst ht; simp [stepG, stepG.exec, hk])
theorem QW {l : Nat} {k' : List Item} (hm : fr.mode = .run) (ht : fr.todo = .code (.goto l) :: k) (hk : gotoIn l k = some k') : step P (lone fr cs w) = .next (lone { fr with todo := k' } cs w) :=
 step_lone_go (by cases fr; simp only at hm ht; subst hm; subst ht; simp [stepG, stepG.exec, hk])
theorem R5 (hm : fr.mode = .run) (ht : fr.todo = [] ∨ ∃ k, fr.todo = .code .ret :: k) (hr : fr.roundOf = none) : step P (lone fr cs w) = .next (lone { fr with mode := .returning } cs w) := by
 rcases ht with ht | ⟨k, ht⟩ <;>
 exact step_lone_go (by cases fr; simp only at hm ht hr; subst hm; subst ht; subst hr; simp [stepG, stepG.exec])
theorem Lu {l : Nat} {jump : Option Code} {c : Frame} {w' : World} {v : Value} (hm : fr.mode = .run) (hr : fr.roundOf = some l) (hk : fr.kind = .normal)
  (ht : (fr.todo = [] ∧ jump = none) ∨ (∃ k, fr.todo = .code .ret :: k ∧ jump = some .ret) ∨ (∃ id k, fr.todo = .code (.exit id) :: k ∧ exitTo id k = none ∧ jump = some (.exit id)) ∨ (∃ l k, fr.todo = .code (.goto l) :: k ∧ gotoIn l k = none ∧ jump = some (.goto l)))
  (hrun : (Instr.endRound l jump).run P w = .ok v w') : step P (lone fr (c :: cs) w) = .next (lone (c.finish v) cs w') := by
 rcases ht with ⟨ht, rfl⟩ | ⟨k, ht, rfl⟩ | ⟨id, k, ht, he, rfl⟩ | ⟨l', k, ht, he, rfl⟩ <;>
 exact step_lone_go (by cases fr; simp only at hm ht hr hk; subst hm; subst ht; subst hr; subst hk; simp [stepG, stepG.exec, Sem.runT_eq, doReturn, *])
theorem JP {ops : Array Oper} {i : Nat} {rest : List Nat} {o : Oper} (hm : fr.mode = .run) (ht : fr.todo = .inRegion ops (i :: rest) :: k) (ho : ops[i]? = some o) (hw : Region.wanted o (yielded ops fr.tmps) = false) :
  step P (lone fr cs w) = .next (lone (fr.finish undef) cs w) :=
 step_lone_go (by cases fr; simp only at hm ht; subst hm; subst ht; simp at hw; simp [stepG, stepG.exec, ho, hw])
theorem DQ {ops : Array Oper} {i : Nat} {rest : List Nat} {o : Oper} (hm : fr.mode = .run) (ht : fr.todo = .inRegion ops (i :: rest) :: k) (ho : ops[i]? = some o) (hw : Region.wanted o (yielded ops fr.tmps) = true)
  (hd : fr.roundOf = none ∨ ∀ c, o.op ≠ .defer c) :
  stepG P true { frame := fr, callers := cs, status := .running, dying := none } w = stepG.apply P true fr cs none (execOp fr.eval o) w := by
 cases fr;simp only at hm ht hd;subst hm; subst ht;simp at hw;rcases hd with hd | hd
 ·subst hd;simp [stepG, stepG.exec, stepG.oper, Frame.oper?, ho, hw]
 ·simp only [stepG, stepG.exec, ho, Option.map_some, hw, Option.getD_some, if_true, stepG.oper, Frame.oper?];split
  ·rename_i c heq; exact absurd heq (hd c)
  ·rfl
theorem Nj {ops : Array Oper} {i : Nat} {rest : List Nat} {o : Oper} {w' : World} {v : Value} (hm : fr.mode = .run) (ht : fr.todo = .inRegion ops (i :: rest) :: k) (ho : ops[i]? = some o) (hw : Region.wanted o (yielded ops fr.tmps) = true)
  (hd : fr.roundOf = none ∨ ∀ c, o.op ≠ .defer c) (hrun : (execOp fr.eval o).run P w = .ok (.value v) w' ∨ ((execOp fr.eval o).run P w = .ok .skip w' ∧ v = undef)) :
  step P (lone fr cs w) = .next (lone (fr.finish v) cs w') := by
 refine step_lone_go ?_;rw [DQ hm ht ho hw hd];rcases hrun with hrun | ⟨hrun, rfl⟩ <;> simp [stepG.apply, hrun]
theorem LC {ops : Array Oper} {i : Nat} {rest : List Nat} {o : Oper} {f : FuncId} {args : Array Value} {w' : World} (hm : fr.mode = .run) (ht : fr.todo = .inRegion ops (i :: rest) :: k) (ho : ops[i]? = some o) (hw : Region.wanted o (yielded ops fr.tmps) = true)
  (hd : fr.roundOf = none ∨ ∀ c, o.op ≠ .defer c) (hrun : (execOp fr.eval o).run P w = .ok (.enter f args) w') : step P (lone fr cs w) = .next (lone (Frame.enter P f args .normal) (fr :: cs) w') := by
 refine step_lone_go ?_;rw [DQ hm ht ho hw hd];simp [stepG.apply, hrun, ht]
theorem Qu {ops : Array Oper} {i : Nat} {rest : List Nat} {o : Oper} {l : Nat} {f : FuncId} {tmps : Array Value} {assign body : Code} {w' : World} (hm : fr.mode = .run) (ht : fr.todo = .inRegion ops (i :: rest) :: k) (ho : ops[i]? = some o) (hw : Region.wanted o (yielded ops fr.tmps) = true)
  (hd : fr.roundOf = none ∨ ∀ c, o.op ≠ .defer c) (hrun : (execOp fr.eval o).run P w = .ok (.round l f tmps assign body) w') : step P (lone fr cs w) = .next (lone (Frame.round l f tmps assign body .normal) (fr :: cs) w') := by
 refine step_lone_go ?_;rw [DQ hm ht ho hw hd];simp [stepG.apply, hrun]
theorem Jb {l : Nat} {w' : World} (hm : fr.mode = .run) (ht : fr.todo = .beginRound :: k) (hr : fr.roundOf = some l) (hrun : (Instr.beginRound l).run P w = .ok () w') :
  step P (lone fr cs w) = .next (lone { fr with todo := k } cs w') := by
 refine step_lone_go ?_;cases fr;simp only at hm ht hr;subst hm; subst ht; subst hr;simp [stepG, stepG.exec, stepG.apply, hrun, Frame.finish]
theorem MI {l : Nat} {w' : World} {jump : Option Code} (hm : fr.mode = .run) (ht : fr.todo = .endRangeFunc l :: k) (hrun : (Instr.endLoop l).run P w = .ok jump w') :
  step P (lone fr cs w) = .next (lone { fr with todo := (jump.map Item.code).toList ++ k } cs w') := by
 refine step_lone_go ?_;cases fr;simp only at hm ht;subst hm; subst ht;simp [stepG, stepG.exec, Sem.runT_eq, hrun]
theorem Ho {f : Operand} {params : Array Tmp} {assign body : Code} {l : Nat} {mark : List Deferred} {w' : World} (hm : fr.mode = .run) (ht : fr.todo = .code (.rangeFunc f params assign body) :: k)
  (hrun : (Instr.enterLoop fr.fn fr.tmps params assign body fr.roundOf).run P w = .ok (l, mark) w') :
  (stepG P true { frame := fr, callers := cs, status := .running, dying := none } w).bare =
  (stepG.apply P true { fr with todo := .inRangeFunc l :: k, defers := mark ++ fr.defers } cs none (do let d ← resolve fr.eval { callee := .value f, args := #[.const (.func (.yield l) #[] #[])], argTypes := #[] } 0; invoke d.target d.args) w').bare := by
 cases fr;simp only at hm ht hrun;subst hm; subst ht;simp only [stepG, stepG.exec, Sem.runT_eq, hrun, GStep.bare_after]
 congr 2
theorem QQ {d : Deferred} {ds : List Deferred} {f : FuncId} {args : Array Value} {w' : World} (hm : fr.mode ≠ .run) (hd : fr.defers = d :: ds) (hc : ∀ b, d.target ≠ .collected b) (hn : d.target ≠ .nil)
  (hrun : (invoke d.target d.args).run P w = .ok (.enter f args) w') : step P (lone fr cs w) = .next (lone (Frame.enter P f args .deferred) ({ fr with defers := ds } :: cs) w') := by
 refine step_lone_go ?_;cases fr with | mk fn tmps todo defers mode kind roundOf =>
 cases d with | mk target dargs =>
 simp only at hm hd hc hn hrun;subst hd;cases mode with
 | run => exact absurd rfl hm
 | returning => cases target <;> first | exact absurd rfl hn | exact absurd rfl (hc _) | simp [stepG, unwind, callDeferred, Sem.runT_eq, hrun]
 | panicking ch => cases target <;> first | exact absurd rfl hn | exact absurd rfl (hc _) | simp [stepG, unwind, callDeferred, Sem.runT_eq, hrun]
theorem Pr {b : Nat} {args : Array Value} {ds l : List Deferred} {w' : World} (hm : fr.mode ≠ .run) (hd : fr.defers = { target := .collected b, args } :: ds)
  (hrun : (Instr.takeDeferred b).run P w = .ok l w') : step P (lone fr cs w) = .next (lone { fr with defers := l ++ ds } cs w') := by
 refine step_lone_go ?_;cases fr with | mk fn tmps todo defers mode kind roundOf =>
 simp only at hm hd;subst hd;cases mode with
 | run => exact absurd rfl hm
 | returning => simp [stepG, unwind, Sem.runT_eq, hrun]
 | panicking ch => simp [stepG, unwind, Sem.runT_eq, hrun]
end
end Go.AE
namespace Go.AE
section
variable [U : Vals]
inductive IR (ρ : Ren) : AI → Item → Prop
 | code (c : Code) : IR ρ (.code c) (.code c)
 | inBlock (id : Nat) : IR ρ (.inBlock id) (.inBlock id)
 | inLoop (b : Code) : IR ρ (.inLoop b) (.inLoop b)
 | inScope (b : Code) : IR ρ (.inScope b) (.inScope b)
 | ops (all : Array Oper) (rest : List Oper) (idx : List Nat) (h : rest.map some = idx.map fun i => all[i]?) : IR ρ (.ops all rest) (.inRegion all idx)
 | inRange (l : Nat) (base : B9) (h : ρ l = some base) : IR ρ (.inRange l) (.inRangeFunc base.cb)
 | endRange (l : Nat) (base : B9) (h : ρ l = some base) : IR ρ (.endRange l) (.endRangeFunc base.cb)
 | beginRound : IR ρ .beginRound .beginRound
 | dead (all : Array Oper) (idx : List Nat) : IR ρ .dead (.inRegion all idx)
inductive IL (ρ : Ren) : List AI → List Item → Prop
 | nil : IL ρ [] []
 | cons {a : AI} {x : Item} {l : List AI} {l' : List Item} (h : IR ρ a x) (k : IL ρ l l') : IL ρ (a :: l) (x :: l')
 | rest : IL ρ [.rest] U.R
def CL (ρ : Ren) : List (AV × Bool) → List PanicEntry → Prop
 | [], [] => True
 | a :: r, e :: r' => VR ρ a.1 e.v ∧ e.recovered = a.2 ∧ e.goexit = false ∧ CL ρ r r'
 | _, _ => False
inductive MR (ρ : Ren) : F6 → FrameMode → Prop
 | run : MR ρ .run .run
 | ret : MR ρ .ret .returning
 | panic (ch : List (AV × Bool)) (ch' : List PanicEntry) (h : CL ρ ch ch') : MR ρ (.panic ch) (.panicking ch')
def RR (ρ : Ren) : Option Nat → Option Nat → Prop
 | none, none => True
 | some l, some c => ∃ base, ρ l = some base ∧ c = base.cb
 | _, _ => False
structure FrR (ρ : Ren) (f : AF) (c : Frame) : Prop where
 fn : c.fn = f.fn
 tm : TR ρ f.nt f.tmps c.tmps
 todo : IL ρ f.todo c.todo
 defers : DL ρ f.defers c.defers
 mode : MR ρ f.mode c.mode
 kind : c.kind = f.kind
 round : RR ρ f.round c.roundOf
inductive FrL (ρ : Ren) : List AF → List Frame → Prop
 | nil : FrL ρ [] []
 | cons {f : AF} {c : Frame} {l : List AF} {l' : List Frame} (h : FrR ρ f c) (k : FrL ρ l l') : FrL ρ (f :: l) (c :: l')
theorem IR.mono {ρ σ : Ren} (hle : ρ.le σ) {a : AI} {x : Item} (h : IR ρ a x) : IR σ a x := by
 cases h with
 | code c => exact .code c
 | inBlock id => exact .inBlock id
 | inLoop b => exact .inLoop b
 | inScope b => exact .inScope b
 | ops all rest idx h => exact .ops all rest idx h
 | inRange l base h => exact .inRange l base (hle.m _ _ h)
 | endRange l base h => exact .endRange l base (hle.m _ _ h)
 | beginRound => exact .beginRound
 | dead all idx => exact .dead all idx
theorem IL.mono {ρ σ : Ren} (hle : ρ.le σ) {a : List AI} {x : List Item} (h : IL ρ a x) : IL σ a x := by
 induction h with
 | nil => exact .nil
 | cons h _ ih => exact .cons (h.mono hle) ih
 | rest => exact .rest
theorem CL.mono {ρ σ : Ren} (hle : ρ.le σ) : ∀ {l : List (AV × Bool)} {l' : List PanicEntry}, CL ρ l l' → CL σ l l'
 | [], [], _ => trivial
 | _ :: _, _ :: _, ⟨h1, h2, h3, h4⟩ => ⟨h1.mono hle, h2, h3, h4.mono hle⟩
theorem MR.mono {ρ σ : Ren} (hle : ρ.le σ) {a : F6} {x : FrameMode} (h : MR ρ a x) : MR σ a x := by
 cases h with
 | run => exact .run
 | ret => exact .ret
 | panic ch ch' h => exact .panic ch ch' (h.mono hle)
theorem RR.mono {ρ σ : Ren} (hle : ρ.le σ) {a x : Option Nat} (h : RR ρ a x) : RR σ a x := by
 cases a <;> cases x <;> simp only [RR] at h ⊢
 obtain ⟨base, h1, h2⟩ := h;exact ⟨base, hle.m _ _ h1, h2⟩
theorem FrR.mono {ρ σ : Ren} (hle : ρ.le σ) {f : AF} {c : Frame} (h : FrR ρ f c) : FrR σ f c :=
 ⟨h.fn, h.tm.mono hle, h.todo.mono hle, h.defers.mono hle, h.mode.mono hle, h.kind, h.round.mono hle⟩
theorem FrL.mono {ρ σ : Ren} (hle : ρ.le σ) {f : List AF} {c : List Frame} (h : FrL ρ f c) : FrL σ f c := by
 induction h with
 | nil => exact .nil
 | cons h _ ih => exact .cons (h.mono hle) ih
end
variable [U : Unk]
theorem FrR.evR {ρ : Ren} {f : AF} {c : Frame} (h : FrR ρ f c) : EvR ρ f.tmps c.eval := by
 intro o;have := HK h.tm o;cases o <;> exact this
theorem TR.put {ρ : Ren} {nt : Nat} {t : T AV} {a : Array Value} (h : TR ρ nt t a) {d : Nat} {v : AV} {v' : Value} (hd : d < nt) (hv : VR ρ v v') : TR ρ nt (t.set d v) (a.setIfInBounds d v') := by
 refine ⟨by simp [h.size], fun i x hx => ?_⟩
 rw [T.get_set] at hx;by_cases e : d = i
 ·subst e;rw [if_pos rfl] at hx;cases hx;have : d < a.size := by rw [h.size]; exact hd
  simpa [Array.getD_eq_getD_getElem?, this] using hv
 ·rw [if_neg e] at hx;have := h.get i x hx;simpa [Array.getD_eq_getD_getElem?, Array.getElem?_setIfInBounds_ne e] using this
def Gd (a : Array Value) (dst : Option Tmp) (v : Value) : Array Value := match dst with | some d => a.setIfInBounds d v | none => a
theorem QN {ρ : Ren} {nt : Nat} {t t' : T AV} {a : Array Value} (h : TR ρ nt t a) {dst : Option Tmp} {v : AV} {v' : Value} (hp : Iv nt t dst v = some t') (hv : VR ρ v v') :
  TR ρ nt t' (Gd a dst v') := by
 cases dst with
 | none => simp only [Iv, Option.some.injEq] at hp; subst hp; exact h
 | some d =>
  simp only [Iv] at hp;cases hb : Nat.blt d nt with
  | false => rw [hb] at hp; cases hp
  | true =>
   rw [hb] at hp;simp only [Option.some.injEq] at hp;subst hp;exact h.put (by simpa [Nat.blt_eq] using hb) hv
theorem VR.not_bool {ρ : Ren} {a : AV} {v : Value} (h : VR ρ a v) (h1 : ∀ b, a ≠ .bool b) (h2 : a ≠ .top) (h3 : ∀ p e, a ≠ .sb p e) (b : Bool) : v ≠ .bool b := by
 cases h with
 | sb p e => exact absurd rfl (h3 p e)
 | top v => exact absurd rfl h2
 | bool c => exact absurd rfl (h1 c)
 | _ => exact fun e => by cases e
theorem Bu {ρ : Ren} {nt : Nat} {t : T AV} {a : Array Value} (h : TR ρ nt t a) {all : Array Oper} {o : Oper} {b : Bool} (hw : Cg all o t = some b) : Region.wanted o (yielded all a) = b := by
 unfold Cg at hw;unfold Region.wanted;cases hg : o.guard with
 | none => rw [hg] at hw; simpa using hw
 | some p =>
  obtain ⟨j, want⟩ := p;rw [hg] at hw;simp only at hw ⊢;unfold yielded;have ha : all[j]? = all.toList[j]? := by simp
  rw [ha];cases hj : all.toList[j]? with
  | none => rw [hj] at hw; simp at hw ⊢; exact hw
  | some g =>
   rw [hj] at hw;simp only [Option.bind_some] at hw ⊢;cases hd : g.dst with
   | none => rw [hd] at hw; simp at hw ⊢; exact hw
   | some d =>
    rw [hd] at hw;simp only [Option.bind_some] at hw ⊢;cases ht : t.get d with
    | none => rw [ht] at hw; cases hw
    | some v =>
     rw [ht] at hw;have hv := h.get d v ht;rw [Array.getD_eq_getD_getElem?] at hv
     have hnb : (∀ b, v ≠ .bool b) → v ≠ .top → (∀ p e, v ≠ .sb p e) → ((match a[d]? with | some (.bool b) => some b | _ => none) == some want) = false := by
      intro h1 h2 h3;cases hx : a[d]? with
      | none => rfl
      | some x =>
       rw [hx] at hv;cases x with
       | bool c => exact absurd rfl (hv.not_bool h1 h2 h3 c)
       | _ => rfl
     cases v with
     | top => cases hw
     | sb p e =>
      simp only at hw;split at hw
      ·rename_i q hq;have he := Al U.ok hq;simp only [Option.some.injEq] at hw;cases hx : a[d]? with
       | none => rw [hx] at hv; cases hv
       | some x =>
        rw [hx] at hv;cases hv;rw [he];simpa using hw
      ·cases hw
     | bool e =>
      simp only [Option.some.injEq] at hw;cases hx : a[d]? with
      | none => rw [hx] at hv; cases hv
      | some x =>
       rw [hx] at hv;cases hv;subst hw;simp
     | _ =>
      simp only [Option.some.injEq] at hw;subst hw;exact hnb (fun b e => by cases e) (fun e => by cases e) (fun p b e => by cases e)
end Go.AE
namespace Go.AE
variable [U : Unk]
theorem IL.ops_inv {ρ : Ren} {all : Array Oper} {o : Oper} {rest : List Oper} {k : List AI} {l : List Item} (h : IL ρ (.ops all (o :: rest) :: k) l) :
  ∃ i idx k', l = .inRegion all (i :: idx) :: k' ∧ all[i]? = some o ∧ rest.map some = idx.map (fun i => all[i]?) ∧ IL ρ k k' := by
 cases h with
 | cons h hk =>
  cases h with
  | ops all rest idx h =>
   cases idx with
   | nil => cases h
   | cons i idx =>
    simp only [List.map_cons, List.cons.injEq] at h;exact ⟨i, idx, _, rfl, h.1.symm, h.2, hk⟩
theorem Ba {ρ : Ren} {f f' : AF} {c : Frame} (h : FrR ρ f c) {v : AV} {v' : Value} (hf : BT f v = some f') (hv : VR ρ v v') : FrR ρ f' (c.finish v') := by
 have htodo := h.todo;unfold BT at hf;split at hf
 ·rename_i all o rest k ht;rw [ht] at htodo;obtain ⟨i, idx, k', e, ho, hm, hk⟩ := htodo.ops_inv;split at hf
  ·rename_i t hp;simp only [Option.some.injEq] at hf;subst hf;have := QN h.tm hp hv
   have ef : c.finish v' = { c with tmps := Gd c.tmps o.dst v', todo := .inRegion all idx :: k' } := by
    simp only [Frame.finish, e, ho, Option.bind_some, Gd];cases o.dst <;> rfl
   rw [ef];exact ⟨h.fn, this, .cons (.ops _ _ _ hm) hk, h.defers, h.mode, h.kind, h.round⟩
  ·cases hf
 ·rename_i l k ht;rw [ht] at htodo;simp only [Option.some.injEq] at hf;subst hf;generalize hl : c.todo = l' at htodo;cases htodo with
  | cons a hk =>
   cases a with
   | inRange l base hb =>
    simp only [Frame.finish, hl];exact ⟨h.fn, h.tm, .cons (.endRange _ _ hb) hk, h.defers, h.mode, h.kind, h.round⟩
 ·rename_i k ht;rw [ht] at htodo;simp only [Option.some.injEq] at hf;subst hf;generalize hl : c.todo = l' at htodo;cases htodo with
  | cons a hk =>
   cases a with
   | beginRound =>
    simp only [Frame.finish, hl];exact ⟨h.fn, h.tm, hk, h.defers, h.mode, h.kind, h.round⟩
 ·cases hf
theorem TR.ofArgs {ρ : Ren} {n : Nat} {args : List AV} {args' : List Value} (ha : VL ρ args args') : TR ρ (max n args.length) (.ofList args) (args'.toArray ++ Array.replicate (n - args'.toArray.size) undef) := by
 have hl := ha.1;refine ⟨by simp; omega, fun i x hx => ?_⟩
 rw [T.get_ofList] at hx;obtain ⟨v, hv, hvr⟩ := ha.get hx;have hi : i < args'.length := (List.getElem?_eq_some_iff.1 hv).1;rw [Array.getD_eq_getD_getElem?, Array.getElem?_append_left (by simpa using hi)]
 simpa [hv] using hvr
theorem Cv {E : Env} (hE : OK E) {ρ : Ren} {f : FuncId} {args : List AV} {args' : List Value} {kind : CallKind} {g : AF} (hg : A9 E f args kind = some g) (ha : VL ρ args args') :
  FrR ρ g (Frame.enter E.P f args'.toArray kind) := by
 unfold A9 at hg;split at hg
 ·rename_i fn hf;split at hg
  ·rename_i c hc;simp only [Option.some.injEq] at hg;subst hg
   have e : Frame.enter E.P f args'.toArray kind = { fn := f, tmps := args'.toArray ++ Array.replicate (fn.ntmps - args'.toArray.size) undef, todo := [.code c], defers := [], mode := .run, kind } := by
    simp [Frame.enter, hE.fn f fn hf, hc]
   rw [e];exact ⟨rfl, TR.ofArgs ha, .cons (.code c) .nil, trivial, .run, rfl, trivial⟩
  ·cases hg
 ·cases hg
theorem GA {ρ : Ren} {nt : Nat} : ∀ {ps : List Tmp} {t t' : T AV} {tm : Array Value} {args : List AV} {args' : List Value}, TR ρ nt t tm → VL ρ args args' → Dz nt t ps args = some t' →
  args'.length = ps.length ∧ TR ρ nt t' ((ps.zip args').foldl (fun tmps x => tmps.setIfInBounds x.1 x.2) tm)
 | [], t, t', tm, [], args', h, ha, hs => by
  cases ha.nil_inv;simp only [Dz, Option.some.injEq] at hs;subst hs;exact ⟨rfl, h⟩
 | [], t, t', tm, _ :: _, args', h, ha, hs => by cases hs
 | _ :: _, t, t', tm, [], args', h, ha, hs => by cases hs
 | p :: ps, t, t', tm, a :: as, args', h, ha, hs => by
  obtain ⟨v, r, rfl, h1, h2⟩ := ha.cons_inv;simp only [Dz] at hs;cases hb : Nat.blt p nt with
  | false => rw [hb] at hs; cases hs
  | true =>
   rw [hb] at hs;obtain ⟨q1, q2⟩ := GA (h.put (by simpa [Nat.blt_eq] using hb) h1) h2 hs
   exact ⟨by simp [q1], q2⟩
theorem Jg {E : Env} {ρ : Ren} {h : Aa} {w : World} (hr : HR ρ h.blk.get w) {l : Nat} {base : B9} {args : List AV} {args' : List Value} {g : AF} (hb : ρ l = some base) (hg : EG l args h = some g) (ha : VL ρ args args') :
  ∃ fn tm assign body, (Instr.yield base.cb args'.toArray).run E.P w = .ok (.round base.cb fn tm assign body) w ∧ FrR ρ g (Frame.round base.cb fn tm assign body .normal) := by
 unfold EG at hg;split at hg
 ·rename_i st pending fn nt tmps params assign body d hl;split at hg
  ·rename_i t hs;simp only [Option.some.injEq] at hg;subst hg;obtain ⟨tm, bd, h1, h2, h3⟩ := hr.blk l base _ hb hl;obtain ⟨q1, q2⟩ := GA h2 ha hs;refine ⟨fn, _, assign, body, ?_, ⟨rfl, q2, .cons (.code _) (.cons .beginRound (.cons (.code _) .nil)), trivial, .run, rfl, ⟨base, hb, rfl⟩⟩⟩;have hgo := Ao E.P h3 (fun _ _ _ e => by cases e)
   simp only [Instr.yield, Instr.getLoop, Sem.run_bind, hgo, Result.andThen_ok, Sem.run_pure];simp [q1]
  ·cases hg
 ·cases hg
end Go.AE
namespace Go.AE
section
variable [U : Vals]
structure SR (ρ : Ren) (s : AS) (cf : Frame) (ccs : List Frame) (w : World) : Prop where
 fr : FrR ρ s.fr cf
 cs : FrL ρ s.cs ccs
 h : HR ρ s.h.blk.get w
end
variable [U : Unk]
def AC (P : Program) (base : List Frame) (ρ : Ren) (h : Aa) (fr0 : Frame) (ccs : List Frame) (w0 w : World) (s' : AS) : Prop :=
 ∃ σ cf' ccs' w', step P (lone fr0 (ccs ++ base) w0) = .next (lone cf' (ccs' ++ base) w') ∧ SR σ s' cf' ccs' w' ∧ Ext ρ σ h s'.h w w'
theorem IL.not_call {ρ : Ren} {l : List AI} {l' : List Item} (h : IL ρ l l') (d : Deferred) (b : Bool) (r : String) (a : Array Value) (k : List Item) : l' ≠ .call d b r a :: k := by
 intro e;cases h with
 | nil => cases e
 | cons h _ => cases e; cases h
 | rest => exact U.hR _ _ _ _ _ e
section
variable {E : Env} (hE : OK E) {ρ : Ren} {h : Aa} {w w0 : World} {fr0 c : Frame} {f : AF} {cs : List AF} {ccs base : List Frame} {s : Sem Next} {r : Res} {s' : AS}
include hE
theorem GP (hst : (stepG E.P true { frame := fr0, callers := ccs ++ base, status := .running, dying := none } w0).bare = (stepG.apply E.P true c (ccs ++ base) none s w).bare)
  (hd : Df E ρ h w s r) (hr : HR ρ h.blk.get w) (hf : FrR ρ f c) (hcs : FrL ρ cs ccs) (hm : c.mode = .run) (hx : Br E f cs r = .next s') (hfree : AN ρ h.nx s'.h.nx) :
  AC E.P base ρ h fr0 ccs w0 w s' := by
 cases r with
 | val v h' =>
  simp only [Br] at hx;split at hx
  ·rename_i f' hff;cases hx;obtain ⟨σ, v', w', q1, q2, q3, q4⟩ := hd hfree;refine ⟨σ, c.finish v', ccs, w', step_lone_go ?_, ⟨Ba (hf.mono q4.le) hff q2, hcs.mono q4.le, q3⟩, q4⟩;rw [hst];rcases q1 with q1 | ⟨q1, rfl⟩ <;> simp [stepG.apply, q1]
  ·cases hx
 | enter g args h' =>
  obtain ⟨rfl, args', ha, hrun⟩ := hd;simp only [Br] at hx;split at hx
  ·rename_i g' hg;cases hx;refine ⟨ρ, _, c :: ccs, w, step_lone_go ?_, ⟨Cv hE hg ha, .cons hf hcs, hr⟩, Ext.refl _ _ _⟩;rw [hst];have ht := hf.todo;simp only [stepG.apply, Sem.runT_eq, hrun, if_true, GStep.bare_after, GStep.bare_go, List.cons_append];generalize c.todo = td at ht;generalize f.todo = fd at ht;cases ht with
   | nil => rfl
   | cons a _ => cases a <;> rfl
   | rest =>
    generalize hq : U.R = r;cases r with
    | nil => rfl
    | cons x k => cases x <;> first | rfl | exact absurd hq (U.hR _ _ _ _ _)
  ·cases hx
 | round l args h' =>
  obtain ⟨rfl, lb, args', hb, ha, hrun⟩ := hd;simp only [Br] at hx;split at hx
  ·rename_i g' hg;cases hx;obtain ⟨fn, tm, assign, body, q1, q2⟩ := Jg (E := E) hr hb hg ha;refine ⟨ρ, _, c :: ccs, w, step_lone_go ?_, ⟨q2, .cons hf hcs, hr⟩, Ext.refl _ _ _⟩;rw [hst];simp [stepG.apply, hrun, q1]
  ·cases hx
 | defer d h' =>
  obtain ⟨rfl, d', hdr, hrun⟩ := hd;simp only [Br] at hx;split at hx
  ·cases hx
  ·split at hx
   ·rename_i f' hff;cases hx;have hfin := Ba hf hff (VR.undef ρ);refine ⟨ρ, { c with defers := d' :: c.defers }.finish undef, ccs, w, step_lone_go ?_, ⟨?_, hcs, hr⟩, Ext.refl _ _ _⟩
    ·rw [hst];simp [stepG.apply, hrun]
    ·have e : ({ c with defers := d' :: c.defers } : Frame).finish undef = { c.finish undef with defers := d' :: (c.finish undef).defers } := by
      unfold Frame.finish;simp only;split <;> rfl
     rw [e];exact ⟨hfin.fn, hfin.tm, hfin.todo, ⟨hdr, hfin.defers⟩, hfin.mode, hfin.kind, hfin.round⟩
   ·cases hx
 | recover h' =>
  obtain ⟨rfl, hrun⟩ := hd;simp only [Br] at hx;split at hx
  ·rename_i a rest hround hkind;have hk : c.kind = .deferred := hf.kind.trans hkind
   have hro : c.roundOf = none := by
    have := hf.round;rw [hround] at this;cases hc : c.roundOf with
    | none => rfl
    | some l => rw [hc] at this; exact this.elim
   cases hcs with
   | cons ha hrest =>
    rename_i cc crest;have hmode := ha.mode;split at hx
    ·rename_i v older hma;split at hx
     ·rename_i f' hff;cases hx;rw [hma] at hmode;generalize hcm : cc.mode = cm at hmode;cases hmode with
      | panic _ ch' hch =>
       cases ch' with
       | nil => exact hch.elim
       | cons e older' =>
        obtain ⟨h1, h2, h3, h4⟩ := hch;obtain ⟨ev, er, eg⟩ := e;simp only at h1 h2 h3;subst h2; subst h3;refine ⟨ρ, c.finish ev, { cc with mode := .panicking ({ v := ev, recovered := true } :: older') } :: crest, w, step_lone_go ?_, ⟨Ba hf hff h1, .cons ⟨ha.fn, ha.tm, ha.todo, ha.defers, .panic _ _ ⟨h1, rfl, rfl, h4⟩, ha.kind, ha.round⟩ hrest, hr⟩, Ext.refl _ _ _⟩
        rw [hst];simp [stepG.apply, hrun, hro, tryRecover, hk, hcm]
     ·cases hx
    ·rename_i hne;split at hx
     ·rename_i f' hff;cases hx;refine ⟨ρ, c.finish .nilIface, cc :: crest, w, step_lone_go ?_, ⟨Ba hf hff .nilIface, .cons ha hrest, hr⟩, Ext.refl _ _ _⟩;rw [hst]
      have : tryRecover c (cc :: (crest ++ base)) = none := by
       have hno : ∀ v older, cc.mode ≠ .panicking ({ v, recovered := false, goexit := false } :: older) := by
        intro v older he;rw [he] at hmode;generalize ham : a.mode = am at hmode;cases hmode with
        | panic ch _ hch =>
         cases ch with
         | nil => exact hch.elim
         | cons x r =>
          obtain ⟨xv, xb⟩ := x;obtain ⟨h1, h2, h3, h4⟩ := hch;simp only at h2;subst h2;exact hne _ _ ham
       simp only [tryRecover, hk]
      simp [stepG.apply, hrun, hro, this]
     ·cases hx
  ·cases hx
 | panic v h' =>
  obtain ⟨rfl, v', hv, hrun⟩ := hd;simp only [Br] at hx;split at hx
  ·cases hx;refine ⟨ρ, { c with mode := .panicking [{ v := v', recovered := false }] }, ccs, w, step_lone_go ?_, ⟨⟨hf.fn, hf.tm, hf.todo, hf.defers, .panic _ _ ⟨hv, rfl, rfl, trivial⟩, hf.kind, hf.round⟩, hcs, hr⟩, Ext.refl _ _ _⟩
   rw [hst];simp [stepG.apply, hrun, Frame.raise, hm]
  ·cases hx
 | bad y => cases hx
end
end Go.AE
namespace Go.AE
variable [U : Unk]
theorem In {ρ : Ren} {id : Nat} {k : List AI} {k' : List Item} (h : IL ρ k k') : (∀ r, Jq id k = some r → ∃ r', exitTo id k' = some r' ∧ IL ρ r r') ∧ (Jq id k = none → F4 k = false → exitTo id k' = none) := by
 induction h with
 | nil => exact ⟨(fun r h => by cases h), fun _ _ => rfl⟩
 | rest => exact ⟨(fun r h => by cases h), (fun _ h => by cases h)⟩
 | cons h hk ih =>
  cases h with
  | inBlock i =>
   simp only [Jq, exitTo];cases hb : Nat.beq i id with
   | true =>
    have := Aq hb;subst this;exact ⟨fun r hr => ⟨_, if_pos (by simp), by cases hr; exact hk⟩, (fun hr _ => by cases hr)⟩
   | false =>
    have hne : (i == id) = false := by simpa using ML hb
    rw [hne];exact ih
  | _ => exact ih
theorem Io {ρ : Ren} {l : Nat} {k : List AI} {k' : List Item} (h : IL ρ k k') : (∀ r, Jl l k = some r → ∃ r', gotoIn l k' = some r' ∧ IL ρ r r') ∧ (Jl l k = none → F4 k = false → gotoIn l k' = none) := by
 induction h with
 | nil => exact ⟨(fun r h => by cases h), fun _ _ => rfl⟩
 | rest => exact ⟨(fun r h => by cases h), (fun _ h => by cases h)⟩
 | cons h hk ih =>
  cases h with
  | inScope b =>
   simp only [Jl, gotoIn];cases hb : findLabel b l with
   | some rest => exact ⟨fun r hr => ⟨_, rfl, by cases hr; exact .cons (.code _) (.cons (.inScope _) hk)⟩, (fun hr _ => by cases hr)⟩
   | none => exact ih
  | _ => exact ih
theorem CL.calm {ρ : Ren} : ∀ {l : List (AV × Bool)} {l' : List PanicEntry}, CL ρ l l' → ∀ y ∈ l', y.goexit = false
 | [], [], _, y, hy => by cases hy
 | _ :: _, e :: r, ⟨h1, h2, h3, h4⟩, y, hy => by
  rcases List.mem_cons.1 hy with rfl | hy
  ·exact h3
  ·exact CL.calm h4 y hy
theorem LE : ∀ (l : List PanicEntry), (∀ y ∈ l, y.goexit = false) → l.dropWhile (!·.goexit) = []
 | [], _ => rfl
 | y :: r, h => by
  rw [List.dropWhile_cons_of_pos (by simp [h y (by simp)])]
  exact LE r fun z hz => h z (by simp [hz])
section
variable {E : Env} (hE : OK E) {ρ : Ren} {h : Aa} {w w0 : World} {fr0 c : Frame} {f : AF} {cs : List AF} {ccs base : List Frame} {s' : AS}
theorem Fy {v : AV} {v' : Value} (hst : (stepG E.P true { frame := fr0, callers := ccs ++ base, status := .running, dying := none } w0).bare = (doReturn E.P true c (ccs ++ base) none v' w).bare)
  (hr : HR ρ h.blk.get w) (hk : c.kind = f.kind) (hcs : FrL ρ cs ccs) (hv : VR ρ v v') (hx : CR f cs v h = .next s') : AC E.P base ρ h fr0 ccs w0 w s' := by
 unfold CR at hx;cases hcs with
 | nil =>
  simp only at hx;split at hx <;> cases hx
 | cons ha hrest =>
  rename_i a cc rest crest;simp only at hx;split at hx
  ·rename_i hkind;split at hx
   ·rename_i c' hff;cases hx;refine ⟨ρ, _, crest, w, step_lone_go ?_, ⟨Ba ha hff hv, hrest, hr⟩, Ext.refl _ _ _⟩;rw [hst];simp [doReturn, hk, hkind]
   ·cases hx
  ·rename_i hkind;have hmode := ha.mode;split at hx
   ·rename_i x older hma;cases hx;rw [hma] at hmode;generalize hcm : cc.mode = cm at hmode;cases hmode with
    | panic _ ch' hch =>
     cases ch' with
     | nil => exact hch.elim
     | cons e older' =>
      have hcalm := hch.calm;obtain ⟨h1, h2, h3, h4⟩ := hch;obtain ⟨ev, er, eg⟩ := e;simp only at h1 h2 h3;subst h2; subst h3;refine ⟨ρ, { cc with mode := .returning }, crest, w, step_lone_go ?_, ⟨⟨ha.fn, ha.tm, ha.todo, ha.defers, .ret, ha.kind, ha.round⟩, hrest, hr⟩, Ext.refl _ _ _⟩
      rw [hst];simp [doReturn, hk, hkind, hcm, LE older' fun y hy => hcalm y (by simp [hy])]
   ·rename_i hne;cases hx;refine ⟨ρ, _, crest, w, step_lone_go ?_, ⟨ha, hrest, hr⟩, Ext.refl _ _ _⟩;rw [hst]
    have hno : ∀ x g older, cc.mode ≠ .panicking ({ v := x, recovered := true, goexit := g } :: older) := by
     intro x g older he;rw [he] at hmode;generalize ham : a.mode = am at hmode;cases hmode with
     | panic ch _ hch =>
      cases ch with
      | nil => exact hch.elim
      | cons x r =>
       obtain ⟨xv, xb⟩ := x;obtain ⟨h1, h2, h3, h4⟩ := hch;simp only at h2;subst h2;exact hne _ _ ham
    simp only [List.cons_append, doReturn, hk, hkind, GStep.bare_go]
  ·cases hx
include hE
theorem EM (hr : HR ρ h.blk.get w) (hf : FrR ρ f c) : ∀ {rs : List ResultVar} {l : List AV}, BP E f h rs = some l →
  ∃ l' : List Value, VL ρ l l' ∧ (rs.mapM fun | .tmp t => pure (c.tmps.getD t undef) | .cell a t => do loadVar t (← asAddr (c.tmps.getD a undef)) : Sem (List Value)).run E.P w = .ok l' w
 | [], l, hs => by
  simp only [BP, Option.some.injEq] at hs;subst hs;exact ⟨[], VL.nil ρ, by simp⟩
 | .tmp t :: r, l, hs => by
  simp only [BP] at hs;cases hq : BP E f h r with
  | none => rw [hq] at hs; cases hs
  | some l1 =>
   rw [hq] at hs;simp only [Option.some.injEq] at hs;subst hs;obtain ⟨l', q1, q2⟩ := EM hr hf hq;refine ⟨c.tmps.getD t undef :: l', VL.cons ?_ q1, ?_⟩
   ·cases hg : f.tmps.get t with
    | none => exact .top _
    | some a => exact hf.tm.get t a hg
   ·simp only [List.mapM_cons, Sem.run_bind, Sem.run_pure, Result.andThen_ok, q2]
 | .cell a t :: r, l, hs => by
  simp only [BP] at hs;cases hg : f.tmps.get a with
  | none => rw [hg] at hs; cases hs
  | some p =>
   rw [hg] at hs;simp only at hs;cases hl : LS E t p h with
   | none => rw [hl] at hs; cases hs
   | some v =>
    cases hq : BP E f h r with
    | none => rw [hl, hq] at hs; cases hs
    | some l1 =>
     rw [hl, hq] at hs;simp only [Option.some.injEq] at hs;subst hs;obtain ⟨l', q1, q2⟩ := EM hr hf hq;have hp := hf.tm.get a p hg;obtain ⟨v', p1, p2⟩ := LK hE hr hp hl;refine ⟨v' :: l', VL.cons p2 q1, ?_⟩
     have : (do loadVar t (← asAddr (c.tmps.getD a undef)) : Sem Value).run E.P w = .ok v' w := by
      generalize c.tmps.getD a undef = x at p1 hp;cases x with
      | pointer o => cases o with
       | none => simp [Instr.loadAt, Instr.sureAddr, stuck] at p1
       | some y => simpa [Instr.loadAt, Instr.sureAddr, asAddr] using p1
      | _ => simp [Instr.loadAt, Instr.sureAddr, stuck] at p1
     simp only [List.mapM_cons, Sem.run_bind, Sem.run_pure] at this ⊢;rw [this];simp only [Result.andThen_ok, q2]
theorem Ea (hr : HR ρ h.blk.get w) (hf : FrR ρ f c) {fn : Func} {l : List AV} (hs : BP E f h fn.results.toList = some l) :
  ∃ v', (results fn c.tmps).run E.P w = .ok v' w ∧ (∀ a, l = [a] → VR ρ a v') ∧ ((∀ a, l ≠ [a]) → VR ρ (.tuple l) v') := by
 obtain ⟨l', q1, q2⟩ := EM hE hr hf hs;unfold results;rw [Array.mapM_eq_mapM_toList];simp only [Sem.run_bind, Sem.run_map, Sem.run_pure];refine ⟨if h : l'.toArray.size = 1 then l'.toArray[0] else .tuple l'.toArray, ?_, ?_, ?_⟩
 ·have key : ∀ R : Result (List Value), R = .ok l' w → ((R.andThen fun a w' => Result.ok a.toArray w').andThen fun a w' => Result.ok (if h : a.size = 1 then a[0] else Value.tuple a) w') =
    Result.ok (if h : l'.toArray.size = 1 then l'.toArray[0] else Value.tuple l'.toArray) w := by rintro _ rfl; rfl
  refine key _ ?_;rw [← q2]
  congr 2
 ·rintro a rfl
  obtain ⟨v, r, rfl, h1, h2⟩ := q1.cons_inv;cases h2.nil_inv;simpa using h1
 ·intro hne
  have : l'.toArray.size ≠ 1 := by
   intro he;have hl := q1.1;simp only [List.size_toArray] at he;rw [he] at hl;obtain ⟨a, rfl⟩ := List.length_eq_one_iff.1 hl;exact hne a rfl
  rw [dif_neg this];exact .tuple _ _ q1.1 q1.2
end
end Go.AE
namespace Go.AE
variable [U : Unk]
theorem AC.pre {P : Program} {base : List Frame} {ρ σ : Ren} {h h1 : Aa} {fr0 : Frame} {ccs : List Frame} {w0 w w1 : World} {s' : AS} (e : Ext ρ σ h h1 w w1) (st : AC P base σ h1 fr0 ccs w0 w1 s') (hf : AN ρ h.nx s'.h.nx) :
  AC P base ρ h fr0 ccs w0 w s' := by
 obtain ⟨τ, cf', ccs', w', q1, q2, q3⟩ := st;exact ⟨τ, cf', ccs', w', q1, q2, e.trans q3 hf⟩
section
variable {P : Program} {fr : Frame} {k : List Item} {cs : List Frame} {w : World}
theorem H7 {l : Nat} {jump : Option Code} {w' : World} {v : Value} (hm : fr.mode = .run) (hr : fr.roundOf = some l)
  (ht : (fr.todo = [] ∧ jump = none) ∨ (∃ k, fr.todo = .code .ret :: k ∧ jump = some .ret) ∨ (∃ id k, fr.todo = .code (.exit id) :: k ∧ exitTo id k = none ∧ jump = some (.exit id)) ∨ (∃ l k, fr.todo = .code (.goto l) :: k ∧ gotoIn l k = none ∧ jump = some (.goto l)))
  (hrun : (Instr.endRound l jump).run P w = .ok v w') : (stepG P true { frame := fr, callers := cs, status := .running, dying := none } w).bare = (doReturn P true fr cs none v w').bare := by
 rcases ht with ⟨ht, rfl⟩ | ⟨k, ht, rfl⟩ | ⟨id, k, ht, he, rfl⟩ | ⟨l', k, ht, he, rfl⟩ <;>
 (cases fr; simp only at hm ht hr; subst hm; subst ht; subst hr; simp [stepG, stepG.exec, Sem.runT_eq, *])
theorem Gz {v : Value} {fn : Func} (hm : fr.mode = .returning) (hd : fr.defers = []) (hf : P.funcs[fr.fn]? = some fn) (hr : (results fn fr.tmps).run P w = .ok v w) :
  (stepG P true { frame := fr, callers := cs, status := .running, dying := none } w).bare = (doReturn P true fr cs none v w).bare := by
 simp [stepG, unwind, hm, hd, hf, Sem.runT_eq, hr]
theorem Sw {c : Frame} {chain : List PanicEntry} (hm : fr.mode = .panicking chain) (hd : fr.defers = []) (ht : ∀ d b r a k, fr.todo ≠ .call d b r a :: k) : step P (lone fr (c :: cs) w) = .next (lone (c.raise chain) cs w) := by
 have hc : fr.catches P = false := by
  unfold Frame.catches;split
  ·rename_i h1 h2; exact absurd h2 (ht _ _ _ _ _)
  ·rfl
 exact step_lone_go (by simp [stepG, unwind, hm, hd, hc])
end
section
variable {E : Env} (hE : OK E) {ρ : Ren} {h : Aa} {w : World} {c : Frame} {f : AF} {cs : List AF} {ccs base : List Frame} {s' : AS}
theorem G7 (hr : HR ρ h.blk.get w) {l : Nat} {b : B9} {st : LoopState} {pending : Option Code} {fn : FuncId} {nt : Nat} {tmps : T AV} {params : List Tmp} {assign body : Code} {d : Nat} (hb : ρ l = some b)
  (hl : h.blk.get l = some (.loop st pending fn nt tmps params assign body d)) (jump : Option Code) :
  ∃ w', (Instr.endRound b.cb jump).run E.P w = .ok (.bool jump.isNone) w' ∧ HR ρ (h.put l (.loop (if jump.isNone then .ready else .done) jump fn nt tmps params assign body d)).blk.get w' ∧
   Ext ρ ρ h (h.put l (.loop (if jump.isNone then .ready else .done) jump fn nt tmps params assign body d)) w w' := by
 obtain ⟨tm, bd, h1, h2, h3⟩ := hr.blk l b _ hb hl;have hg := Ao E.P h3 (fun _ _ _ e => by cases e)
 obtain ⟨q1, q2⟩ := hr.setObj hb (by rw [hl]; exact fun e => by cases e) (.loop (if jump.isNone then .ready else .done) jump fn nt tmps params assign body d)
  (.loop { state := if jump.isNone then .ready else .done, pending := jump, fn := fn, tmps := tm, params := params.toArray, assign := assign, body := body, defers := bd.cb }) ⟨tm, bd, h1, h2, rfl⟩
 refine ⟨_, ?_, q1, q2⟩;have hs := fun o' => Aw (o' := o') E.P h3 (fun _ _ _ e => by cases e)
 simp only [Instr.endRound, Instr.getLoop, Sem.run_bind, hg, Result.andThen_ok, Sem.run_pure, hs]
theorem RR.none_inv {ρ : Ren} {x : Option Nat} (h : RR ρ none x) : x = none := by
 cases x with
 | none => rfl
 | some l => exact h.elim
theorem RR.some_inv {ρ : Ren} {l : Nat} {x : Option Nat} (h : RR ρ (some l) x) : ∃ b, ρ l = some b ∧ x = some b.cb := by
 cases x with
 | none => exact h.elim
 | some c => obtain ⟨b, h1, rfl⟩ := h; exact ⟨b, h1, rfl⟩
theorem E2 (hr : HR ρ h.blk.get w) (hf : FrR ρ f c) (hcs : FrL ρ cs ccs) (hm : c.mode = .run) {jump : Option Code}
  (ht : (c.todo = [] ∧ jump = none) ∨ (∃ k, c.todo = .code .ret :: k ∧ jump = some .ret) ∨ (∃ id k, c.todo = .code (.exit id) :: k ∧ exitTo id k = none ∧ jump = some (.exit id)) ∨ (∃ l k, c.todo = .code (.goto l) :: k ∧ gotoIn l k = none ∧ jump = some (.goto l)))
  (hx : Dp f cs h jump = .next s') (hfree : AN ρ h.nx s'.h.nx) : AC E.P base ρ h c ccs w w s' := by
 have hround := hf.round;unfold Dp at hx;split at hx
 ·rename_i hrn;rw [hrn] at hround;have hro := hround.none_inv
  have hto : c.todo = [] ∨ ∃ k, c.todo = .code .ret :: k := by
   rcases ht with ⟨ht, _⟩ | ⟨k, ht, _⟩ | ⟨id, k, ht, he, rfl⟩ | ⟨l', k, ht, he, rfl⟩
   ·exact .inl ht
   ·exact .inr ⟨k, ht⟩
   ·cases hx
   ·cases hx
  have hs : s' = { fr := { f with mode := .ret }, cs, h } := by
   split at hx
   ·cases hx; rfl
   ·cases hx; rfl
   ·cases hx
  subst hs;exact ⟨ρ, _, ccs, w, R5 hm hto hro, ⟨⟨hf.fn, hf.tm, hf.todo, hf.defers, .ret, hf.kind, hf.round⟩, hcs, hr⟩, Ext.refl _ _ _⟩
 ·rename_i l hrs;rw [hrs] at hround;obtain ⟨b, hb, hro⟩ := hround.some_inv;split at hx
  ·rename_i st pending fn nt tmps params assign body d hl;obtain ⟨w', q1, q2, q3⟩ := G7 (E := E) hr hb hl jump;exact AC.pre q3 (Fy (H7 hm hro ht q1) q2 hf.kind hcs (.bool _) hx) hfree
  ·cases hx
include hE
theorem L9 (hr : HR ρ h.blk.get w) (hf : FrR ρ f c) (hcs : FrL ρ cs ccs) (hm : c.mode ≠ .run) (hx : Ei E f cs h = .next s') : AC E.P base ρ h c ccs w w s' := by
 have hdef := hf.defers;unfold Ei at hx;split at hx
 ·rename_i d ds hfd;rw [hfd] at hdef;cases hcd : c.defers with
  | nil => rw [hcd] at hdef; exact hdef.elim
  | cons d' ds' =>
   rw [hcd] at hdef;obtain ⟨hdr, hds⟩ := hdef;unfold DR at hdr;split at hx
   ·rename_i hfn;rw [hfn] at hdr;obtain ⟨b, hb, rfl⟩ := hdr;split at hx
    ·rename_i l hl;cases hx;obtain ⟨l', q1, q2⟩ := hr.blk _ b _ hb hl;obtain ⟨p1, p2⟩ := hr.setObj hb (by rw [hl]; exact fun e => by cases e) (.deferred none) (.deferred none) rfl
     refine ⟨ρ, _, ccs, _, Pr hm hcd ?_, ⟨⟨hf.fn, hf.tm, hf.todo, q1.append hds, hf.mode, hf.kind, hf.round⟩, hcs, p1⟩, p2⟩;have hg := Ao E.P q2 (fun _ _ _ e => by cases e)
     have hs := Aw (o' := .deferred none) E.P q2 (fun _ _ _ e => by cases e)
     simp only [Instr.takeDeferred, Sem.run_bind, hg, Result.andThen_ok, Sem.run_pure, hs]
    ·cases hx
   ·rename_i fn hfn;rw [hfn] at hdr;obtain ⟨fn', c', a', h1, h2, h3, rfl⟩ := hdr;have hi := C1 hE hr h1 h2 h3;split at hx
    ·rename_i g args h' hiv;rw [hiv] at hi;obtain ⟨rfl, args', ha, hrun⟩ := hi;split at hx
     ·rename_i gf hg;cases hx;exact ⟨ρ, _, { c with defers := ds' } :: ccs, w, QQ hm hcd (fun b e => by cases e) (fun e => by cases e) hrun, ⟨Cv hE hg ha, .cons ⟨hf.fn, hf.tm, hf.todo, hds, hf.mode, hf.kind, hf.round⟩ hcs, hr⟩, Ext.refl _ _ _⟩
     ·cases hx
    ·cases hx
 ·rename_i hfd;rw [hfd] at hdef
  have hcd : c.defers = [] := by
   cases hcd : c.defers with
   | nil => rfl
   | cons d' ds' => rw [hcd] at hdef; exact hdef.elim
  have hmode := hf.mode;split at hx
  ·cases hx
  ·rename_i chain hfm;rw [hfm] at hmode;generalize hcm : c.mode = cm at hmode;cases hmode with
   | panic _ ch' hch =>
    cases hcs with
    | nil =>
     simp only at hx;split at hx
     ·split at hx <;> cases hx
     ·cases hx
    | cons ha hrest =>
     rename_i a cc rest crest;simp only at hx;split at hx
     ·rename_i ham;cases hx;have hamode := ha.mode;rw [ham] at hamode
      have hccm : cc.mode = .run := by
       generalize cc.mode = x at hamode;cases hamode; rfl
      refine ⟨ρ, _, crest, w, Sw hcm hcd (fun d b r a k => hf.todo.not_call d b r a k), ⟨?_, hrest, hr⟩, Ext.refl _ _ _⟩
      have e : cc.raise ch' = { cc with mode := .panicking ch' } := by simp [Frame.raise, hccm]
      rw [e];exact ⟨ha.fn, ha.tm, ha.todo, ha.defers, .panic _ _ hch, ha.kind, ha.round⟩
     ·cases hx
  ·rename_i hfm;rw [hfm] at hmode
   have hcm : c.mode = .returning := by
    generalize c.mode = x at hmode;cases hmode; rfl
   split at hx
   ·rename_i fn hfn;have hfn' : E.P.funcs[c.fn]? = some fn := by rw [hf.fn]; exact hE.fn _ _ hfn
    split at hx
    ·rename_i v hrs;obtain ⟨v', p1, p2, p3⟩ := Ea hE hr hf hrs;exact Fy (Gz hcm hcd hfn' p1) hr hf.kind hcs (p2 _ rfl) hx
    ·rename_i l hne hrs;obtain ⟨v', p1, p2, p3⟩ := Ea hE hr hf hrs;exact Fy (Gz hcm hcd hfn' p1) hr hf.kind hcs (p3 fun a e => hne a (by rw [e])) hx
    ·cases hx
   ·cases hx
end
end Go.AE
namespace Go.AE
variable [U : Unk]
section
variable {E : Env} (hE : OK E) {ρ : Ren} {h : Aa} {w : World} {c : Frame} {f : AF} {cs : List AF} {ccs base : List Frame} {s s' : AS}
theorem AC.to {P : Program} (hsr : SR ρ s c ccs w) {k : List AI} {k' : List Item} (hk : IL ρ k k') (hst : step P (lone c (ccs ++ base) w) = .next (lone { c with todo := k' } (ccs ++ base) w)) :
  AC P base ρ s.h c ccs w w { s with fr := { s.fr with todo := k } } :=
 ⟨ρ, _, ccs, w, hst, ⟨⟨hsr.fr.fn, hsr.fr.tm, hk, hsr.fr.defers, hsr.fr.mode, hsr.fr.kind, hsr.fr.round⟩, hsr.cs, hsr.h⟩, Ext.refl _ _ _⟩
theorem Of (ops : Array Oper) : ops.toList.map some = (List.range ops.size).map fun i => ops[i]? := by
 apply List.ext_getElem (by simp)
 intro i h1 h2;simp at h1;simp [h1]
theorem Du (tmps : T AV) (c : Call) (h : Aa) : (∃ d, ES tmps c h = .defer d h) ∨ ∃ y, ES tmps c h = .bad y := by
 unfold ES;split
 ·split
  ·exact .inl ⟨_, rfl⟩
  ·exact .inr ⟨_, rfl⟩
 ·exact .inr ⟨_, rfl⟩
theorem F6.not_run {ρ : Ren} {a : F6} {m : FrameMode} (h : MR ρ a m) (ha : a ≠ .run) : m ≠ .run := by
 cases h with
 | run => exact absurd rfl ha
 | ret => exact fun e => by cases e
 | panic => exact fun e => by cases e
include hE
theorem S1 (hsr : SR ρ s c ccs w) (hm : c.mode = .run) (hmf : s.fr.mode = .run) {all : Array Oper} {o : Oper} {rest : List Oper} {k : List AI} (ht : s.fr.todo = .ops all (o :: rest) :: k)
  (hx : (match Cg all o s.fr.tmps with
   | some true => Br E s.fr s.cs (aop E s.fr.tmps s.h o.op)
   | some false => Br E s.fr s.cs (.val .undef s.h)
   | none => .bad "wanted") = .next s') (hfree : AN ρ s.h.nx s'.h.nx) : AC E.P base ρ s.h c ccs w w s' := by
 have htodo := hsr.fr.todo;rw [ht] at htodo;obtain ⟨i, idx, k', e, ho, hmap, hk⟩ := htodo.ops_inv;split at hx
 ·rename_i hw;have hwt := Bu hsr.fr.tm hw
  have hd : c.roundOf = none ∨ ∀ cl, o.op ≠ .defer cl := by
   cases hop : o.op with
   | defer cl =>
    left;have hround := hsr.fr.round;rcases Du s.fr.tmps cl s.h with ⟨d, hq⟩ | ⟨y, hq⟩
    ·have haop : aop E s.fr.tmps s.h o.op = .defer d s.h := by rw [hop]; simpa [aop] using hq
     rw [haop] at hx;simp only [Br] at hx;split at hx
     ·cases hx
     ·rename_i hrn;rw [hrn] at hround;exact hround.none_inv
    ·have haop : aop E s.fr.tmps s.h o.op = .bad y := by rw [hop]; simpa [aop] using hq
     rw [haop] at hx;cases hx
   | _ => exact .inr fun cl e => by cases e
  exact GP hE (by rw [DQ hm e ho hwt hd]) (Ip hE hsr.h hsr.fr.evR o) hsr.h hsr.fr hsr.cs hm hx hfree
 ·rename_i hw;have hwt := Bu hsr.fr.tm hw;simp only [Br] at hx;split at hx
  ·rename_i f' hff;cases hx;exact ⟨ρ, _, ccs, w, JP hm e ho hwt, ⟨Ba hsr.fr hff (VR.undef ρ), hsr.cs, hsr.h⟩, Ext.refl _ _ _⟩
  ·cases hx
 ·cases hx
omit hE in
theorem Df.congr {s t : Sem Next} {r : Res} (e : s.run E.P w = t.run E.P w) (d : Df E ρ h w t r) : Df E ρ h w s r := by
 cases r with
 | bad y => trivial
 | _ => simpa only [Df, e] using d
def Ie (around : Option Nat) : Sem (Nat × List Deferred) := match around with
  | some l => do pure ((← Instr.getLoop l).defers, [])
  | none => do
   let r ← newObj (.deferred (some []))
   pure (r, [{ target := .collected r, args := #[] }])
omit hE in
theorem LZ (hr : HR ρ h.blk.get w) (hf : FrR ρ f c) {d : Nat} {h1 : Aa} {mark : List AD} (hc : Nr f h = some (d, h1, mark)) (hfree : AN ρ h.nx h1.nx) :
  ∃ σ w1 bd mark', (Ie c.roundOf).run E.P w = .ok (bd.cb, mark') w1 ∧ σ d = some bd ∧ DL σ mark mark' ∧ HR σ h1.blk.get w1 ∧ Ext ρ σ h h1 w w1 := by
 have hround := hf.round;unfold Nr at hc;split at hc
 ·rename_i l hrs;rw [hrs] at hround;obtain ⟨b, hb, hro⟩ := hround.some_inv;split at hc
  ·rename_i hl;simp only [Option.some.injEq, Prod.mk.injEq] at hc;obtain ⟨rfl, rfl, rfl⟩ := hc;obtain ⟨tm, bd, q1, q2, q3⟩ := hr.blk l b _ hb hl;have hg := Ao E.P q3 (fun _ _ _ e => by cases e)
   refine ⟨ρ, w, bd, [], ?_, q1, trivial, hr, Ext.refl _ _ _⟩;simp only [hro, Ie, Instr.getLoop, Sem.run_bind, hg, Result.andThen_ok, Sem.run_pure]
  ·cases hc
 ·rename_i hrn;rw [hrn] at hround;have hro := hround.none_inv;simp only [Option.some.injEq, Prod.mk.injEq] at hc;obtain ⟨rfl, rfl, rfl⟩ := hc;obtain ⟨q1, q2⟩ := hr.new (hfree h.nx (Nat.le_refl _) (by simp [Aa.new])) (.deferred (some [])) (.deferred (some [])) 0 ⟨[], trivial, rfl⟩ { w with heap := w.heap.push (.deferred (some [])) } rfl rfl rfl rfl
  have hu : (ρ.upd h.nx ⟨w.heap.size, 0, 0⟩) h.nx = some ⟨w.heap.size, 0, 0⟩ := by simp [Ren.upd]
  refine ⟨_, _, ⟨w.heap.size, 0, 0⟩, [{ target := .collected w.heap.size, args := #[] }], ?_, hu, ⟨⟨_, hu, rfl⟩, trivial⟩, q1, q2⟩;simp only [hro, Ie, Sem.run_bind, run_newObj, Result.andThen_ok, Sem.run_pure]
theorem Qc (hsr : SR ρ s c ccs w) (hm : c.mode = .run) {fo : Operand} {params : Array Tmp} {assign body : Code} {k : List AI} {k' : List Item} (hk : IL ρ k k') (ht : c.todo = .code (.rangeFunc fo params assign body) :: k')
  (hx : E8 E s fo params.toList assign body k = .next s') (hfree : AN ρ s.h.nx s'.h.nx) : AC E.P base ρ s.h c ccs w w s' := by
 unfold E8 at hx;split at hx
 ·rename_i d h1 mark hcoll;split at hx
  ·rename_i fn first captured hev;split at hx
   ·rename_i g args h3 hiv;split at hx
    ·rename_i gf hg;cases hx;have hn1 : (h1.new (.loop .ready none s.fr.fn s.fr.nt s.fr.tmps params.toList assign body d)).nx = h1.nx + 1 := rfl;obtain ⟨σ, w1, bd, mark', q1, q2, q3, q4, q5⟩ := LZ (E := E) hsr.h hsr.fr hcoll (fun b h1 h2 => hfree b h1 (by simp only [hn1]; omega))
     have hfr := hsr.fr.mono q5.le;have hfree1 : σ h1.nx = none := (q5.free hfree) h1.nx (Nat.le_refl _) (by simp only [hn1]; omega)
     have hle := Ren.le_upd hfree1 ⟨w1.heap.size, 0, 0⟩;obtain ⟨p1, p2⟩ := q4.new hfree1 (.loop .ready none s.fr.fn s.fr.nt s.fr.tmps params.toList assign body d)
      (.loop { state := .ready, pending := none, fn := c.fn, tmps := c.tmps, params := params, assign := assign, body := body, defers := bd.cb }) 0
      ⟨c.tmps, bd, hle.m _ _ q2, hfr.tm.mono hle, by rw [hfr.fn]⟩
      { w1 with heap := w1.heap.push (.loop { state := .ready, pending := none, fn := c.fn, tmps := c.tmps, params := params, assign := assign, body := body, defers := bd.cb }) } rfl rfl rfl rfl
     have hu : (σ.upd h1.nx ⟨w1.heap.size, 0, 0⟩) h1.nx = some ⟨w1.heap.size, 0, 0⟩ := by simp [Ren.upd]
     have hrun : (Instr.enterLoop c.fn c.tmps params assign body c.roundOf).run E.P w = .ok (w1.heap.size, mark') { w1 with heap := w1.heap.push (.loop { state := .ready, pending := none, fn := c.fn, tmps := c.tmps, params := params, assign := assign, body := body, defers := bd.cb }) } := by
      cases hro : c.roundOf with
      | some l =>
       rw [hro] at q1;simp only [Ie, Sem.run_bind, Sem.run_pure] at q1;simp only [Instr.enterLoop, Sem.run_bind, Sem.run_pure, run_newObj, Result.andThen_ok];cases hG : (Instr.getLoop l).run E.P w with
       | ok a w2 =>
        rw [hG] at q1;simp only [Result.andThen_ok, Result.ok.injEq, Prod.mk.injEq] at q1 ⊢;obtain ⟨⟨e1, e2⟩, e3⟩ := q1;rw [e1, e2, e3];exact ⟨⟨rfl, rfl⟩, rfl⟩
       | halt x w2 => rw [hG] at q1; cases q1
      | none =>
       rw [hro] at q1;simp only [Ie, Sem.run_bind, Sem.run_pure, run_newObj, Result.andThen_ok, Result.ok.injEq, Prod.mk.injEq] at q1;obtain ⟨⟨e1, e2⟩, e3⟩ := q1;simp only [Instr.enterLoop, Sem.run_bind, Sem.run_pure, run_newObj, Result.andThen_ok];rw [← e1, ← e2, ← e3]
     refine AC.pre (q5.trans p2 hfree) ?_ hfree;have hf2 := hfr.mono hle;have hv := hf2.evR fo;rw [hev] at hv;generalize hcv : c.eval fo = cv at hv;cases hv with
     | func _ fn' _ _ f' c' r1 r2 r3 r4 r5 =>
      have ha : VL (σ.upd h1.nx ⟨w1.heap.size, 0, 0⟩) (first ++ [.func (.yield h1.nx) [] []]) (f' ++ [.func (.yield w1.heap.size) #[] #[]]) :=
       VL.append ⟨r2, r3⟩ (VL.cons (.func _ _ [] [] [] [] ⟨_, hu, rfl⟩ rfl (by simp) rfl (by simp)) (VL.nil _))
      have hdoes := C1 hE p1 r1 ⟨r4, r5⟩ ha;rw [hiv] at hdoes;have he : h3 = _ := hdoes.1;subst he
      refine GP hE (c := { c with todo := .inRangeFunc w1.heap.size :: k', defers := mark' ++ c.defers })
       (f := { s.fr with todo := .inRange h1.nx :: k, defers := mark ++ s.fr.defers }) (cs := s.cs) (Ho hm ht hrun) (hdoes.congr ?_) p1
       ⟨hf2.fn, hf2.tm, .cons (.inRange _ _ hu) ((hk.mono q5.le).mono hle), (q3.mono hle).append hf2.defers, hf2.mode, hf2.kind, hf2.round⟩ ((hsr.cs.mono q5.le).mono hle) hm ?_ (fun b l1 l2 => absurd (Nat.lt_of_le_of_lt l1 l2) (Nat.lt_irrefl _))
      ·have hcv2 : c.eval (.const (.func (.yield w1.heap.size) #[] #[])) = .func (.yield w1.heap.size) #[] #[] := rfl;simp [resolve, hcv, hcv2, Deferred.ofValue]
      ·simp only [Br, hg]
    ·cases hx
   ·cases hx
  ·cases hx
 ·cases hx
theorem Ls (hsr : SR ρ s c ccs w) (hx : EO E s = .next s') (hfree : AN ρ s.h.nx s'.h.nx) : AC E.P base ρ s.h c ccs w w s' := by
 have hmode := hsr.fr.mode;have htodo := hsr.fr.todo;unfold EO at hx;simp only at hx;split at hx
 ·rename_i hmf;rw [hmf] at hmode
  have hm : c.mode = .run := by
   generalize c.mode = x at hmode;cases hmode; rfl
  split at hx
  ·rename_i ht;rw [ht] at htodo;generalize hct : c.todo = td at htodo;cases htodo;exact E2 hsr.h hsr.fr hsr.cs hm (.inl ⟨hct, rfl⟩) hx hfree
  ·rename_i id k ht;rw [ht] at htodo;generalize hct : c.todo = td at htodo;cases htodo with | cons a hk =>
   cases a;cases hx;exact AC.to hsr hk (Nd hm hct)
  ·rename_i id k ht;rw [ht] at htodo;generalize hct : c.todo = td at htodo;cases htodo with | cons a hk =>
   cases a;cases hx;exact AC.to hsr hk (MX hm hct)
  ·rename_i b k ht;rw [ht] at htodo;generalize hct : c.todo = td at htodo;cases htodo with | cons a hk =>
   cases a;cases hx;exact AC.to hsr (.cons (.code _) (.cons (.inLoop _) hk)) (Ob hm hct)
  ·rename_i all k ht;rw [ht] at htodo;generalize hct : c.todo = td at htodo;cases htodo with | cons a hk =>
   cases a with | ops _ _ idx hmap =>
   cases idx with
   | cons i idx => cases hmap
   | nil =>
    cases hx;exact AC.to hsr hk (Gw hm hct)
  ·rename_i all o rest k ht;exact S1 hE hsr hm hmf ht hx hfree
  ·cases hx
  ·cases hx
  ·cases hx
  ·rename_i l k ht;rw [ht] at htodo;generalize hct : c.todo = td at htodo;cases htodo with | cons a hk =>
   cases a with | endRange _ b hb =>
   split at hx
   ·rename_i st pending fn nt tmps params assign body d hl;split at hx
    ·cases hx
    ·rename_i hnb;cases hx;obtain ⟨tm, bd, h1, h2, h3⟩ := hsr.h.blk l b _ hb hl;have hg := Ao E.P h3 (fun _ _ _ e => by cases e)
     obtain ⟨q1, q2⟩ := hsr.h.setObj hb (by rw [hl]; exact fun e => by cases e) (.loop .exhausted pending fn nt tmps params assign body d)
      (.loop { state := .exhausted, pending, fn := fn, tmps := tm, params := params.toArray, assign := assign, body := body, defers := bd.cb }) ⟨tm, bd, h1, h2, rfl⟩
     have hs := fun o' => Aw (o' := o') E.P h3 (fun _ _ _ e => by cases e)
     have hbz : (st == LoopState.busy) = false := by
      cases st <;> first | rfl | exact absurd rfl hnb
     have hrun : (Instr.endLoop b.cb).run E.P w = .ok pending { w with heap := w.heap.setIfInBounds b.cb (.loop { state := .exhausted, pending, fn := fn, tmps := tm, params := params.toArray, assign := assign, body := body, defers := bd.cb }) } := by
      simp only [Instr.endLoop, Instr.getLoop, Sem.run_bind, hg, Result.andThen_ok, Sem.run_pure, hbz, Bool.false_eq_true, if_false, hs]
     refine ⟨ρ, _, ccs, _, MI hm hct hrun, ⟨⟨hsr.fr.fn, hsr.fr.tm, ?_, hsr.fr.defers, hsr.fr.mode, hsr.fr.kind, hsr.fr.round⟩, hsr.cs, q1⟩, q2⟩;cases pending with
     | none => exact hk
     | some j => exact .cons (.code _) hk
   ·cases hx
  ·rename_i k ht;rw [ht] at htodo;generalize hct : c.todo = td at htodo;cases htodo with | cons a hk =>
   cases a;have hround := hsr.fr.round;split at hx
   ·rename_i l hrs;rw [hrs] at hround;obtain ⟨b, hb, hro⟩ := hround.some_inv;split at hx
    ·rename_i pending fn nt tmps params assign body d hl;cases hx;obtain ⟨tm, bd, h1, h2, h3⟩ := hsr.h.blk l b _ hb hl;have hg := Ao E.P h3 (fun _ _ _ e => by cases e)
     obtain ⟨q1, q2⟩ := hsr.h.setObj hb (by rw [hl]; exact fun e => by cases e) (.loop .busy pending fn nt tmps params assign body d)
      (.loop { state := .busy, pending, fn := fn, tmps := tm, params := params.toArray, assign := assign, body := body, defers := bd.cb }) ⟨tm, bd, h1, h2, rfl⟩
     have hs := fun o' => Aw (o' := o') E.P h3 (fun _ _ _ e => by cases e)
     refine ⟨ρ, _, ccs, _, Jb hm hct hro ?_, ⟨⟨hsr.fr.fn, hsr.fr.tm, hk, hsr.fr.defers, hsr.fr.mode, hsr.fr.kind, hsr.fr.round⟩, hsr.cs, q1⟩, q2⟩;simp only [Instr.beginRound, Instr.getLoop, Sem.run_bind, hg, Result.andThen_ok, Sem.run_pure, hs]
    ·cases hx
   ·cases hx
  ·rename_i cd k ht;rw [ht] at htodo;generalize hct : c.todo = td at htodo;cases htodo with | cons a hk =>
   cases a;split at hx
   ·exact E2 hsr.h hsr.fr hsr.cs hm (.inr (.inl ⟨_, hct, rfl⟩)) hx hfree
   ·cases hx; exact AC.to hsr hk (QE hm hct)
   ·cases hx; exact AC.to hsr hk (O3 hm hct)
   ·cases hx; exact AC.to hsr (.cons (.code _) (.cons (.code _) hk)) (Sp hm hct)
   ·rename_i cnd x y;have hv := hsr.fr.evR cnd;split at hx
    ·rename_i he;rw [he] at hv;generalize hcv : c.eval cnd = cv at hv;cases hv;cases hx;exact AC.to hsr (.cons (.code _) hk) (Hy hm hct hcv)
    ·rename_i he;rw [he] at hv;generalize hcv : c.eval cnd = cv at hv;cases hv;cases hx;exact AC.to hsr (.cons (.code _) hk) (Hy hm hct hcv)
    ·rename_i pos e he;rw [he] at hv;generalize hcv : c.eval cnd = cv at hv;cases hv;split at hx
     ·rename_i q hq;have hd := Al U.ok hq;rw [hd] at hcv;split at hx
      ·rename_i hp;rw [hp] at hcv;cases hx;exact AC.to hsr (.cons (.code _) hk) (Hy hm hct hcv)
      ·rename_i hp;rw [hp] at hcv;cases hx;exact AC.to hsr (.cons (.code _) hk) (Hy hm hct hcv)
     ·cases hx
    ·cases hx
   ·cases hx; exact AC.to hsr (.cons (.code _) (.cons (.inBlock _) hk)) (Qb hm hct)
   ·cases hx; exact AC.to hsr (.cons (.code _) (.cons (.inLoop _) hk)) (Q3 hm hct)
   ·cases hx; exact AC.to hsr (.cons (.code _) (.cons (.inScope _) hk)) (PY hm hct)
   ·rename_i id;split at hx
    ·rename_i k2 he;cases hx;obtain ⟨r', h1, h2⟩ := (In hk).1 _ he;exact AC.to hsr h2 (Q0 hm hct h1)
    ·rename_i he;split at hx
     ·cases hx
     ·rename_i hre;exact E2 hsr.h hsr.fr hsr.cs hm (.inr (.inr (.inl ⟨_, _, hct, (In hk).2 he hre, rfl⟩))) hx hfree
   ·rename_i id;split at hx
    ·rename_i k2 he;cases hx;obtain ⟨r', h1, h2⟩ := (Io hk).1 _ he;exact AC.to hsr h2 (QW hm hct h1)
    ·rename_i he;split at hx
     ·cases hx
     ·rename_i hre;exact E2 hsr.h hsr.fr hsr.cs hm (.inr (.inr (.inr ⟨_, _, hct, (Io hk).2 he hre, rfl⟩))) hx hfree
   ·exact Qc hE hsr hm hk hct hx hfree
   ·rename_i id ops draw;split at hx
    ·cases hx;exact AC.to hsr (.cons (.ops _ _ _ (Of _)) hk) (Om hm hct)
    ·cases hx
   ·cases hx
 ·rename_i hmf;exact L9 hE hsr.h hsr.fr hsr.cs (F6.not_run hmode hmf) hx
end
end Go.AE
namespace Go.AE
variable [U : Unk]
def WF (h : Aa) : Prop := ∀ b, h.nx ≤ b → h.blk.get b = none
theorem Ext.wf {ρ σ : Ren} {h h' : Aa} {w w' : World} (e : Ext ρ σ h h' w w') (hw : WF h) : WF h' := by
 intro b hb;have := e.nx;cases hg : h'.blk.get b with
 | none => rfl
 | some x =>
  rcases e.live b (by rw [hg]; exact fun e => by cases e) with h1 | ⟨_, h2⟩
  ·exact absurd (hw b (by omega)) h1
  ·omega
def Bk (P : Program) (m : Machine) (c0 : Frame) (base : List Frame) (ok : Bool) (v : Value) (w : World) : Prop :=
 match ok with
 | true => Steps P m (lone (c0.finish v) base w)
 | false => Steps P m (lone (c0.raise [{ v := v, recovered := false }]) base w)
theorem Bk.head {P : Program} {m m' : Machine} {c0 : Frame} {base : List Frame} {ok : Bool} {v : Value} {w : World} (h : step P m = .next m') (k : Bk P m' c0 base ok v w) : Bk P m c0 base ok v w := by
 cases ok
 ·exact Steps.head h k
 ·exact Steps.head h k
def H2 (E : Env) (callF : Ask → Aa → Option (Bool × AV × Aa)) : Prop :=
 (∀ (f : FuncId) (args : List AV) (args' : List Value) (h g : Aa) (ok : Bool) (v : AV) (ρ : Ren) (w : World), VL ρ args args' → HR ρ h.blk.get w → WF h → callF (.enter f args) h = some (ok, v, g) → AN ρ h.nx g.nx →
  ∀ (c0 : Frame) (base : List Frame), ∃ σ v' w', Bk E.P (lone (Frame.enter E.P f args'.toArray .normal) (c0 :: base) w) c0 base ok v' w' ∧ VR σ v v' ∧ HR σ g.blk.get w' ∧ Ext ρ σ h g w w') ∧
 (∀ (l : Nat) (args : List AV) (h g : Aa) (ok : Bool) (v : AV) (ρ : Ren) (w : World), HR ρ h.blk.get w → WF h → callF (.round l args) h = some (ok, v, g) → AN ρ h.nx g.nx →
  ∃ fr, EG l args h = some fr ∧ ∀ (cf : Frame), FrR ρ fr cf → ∀ (c0 : Frame) (base : List Frame), ∃ σ v' w', Bk E.P (lone cf (c0 :: base) w) c0 base ok v' w' ∧ VR σ v v' ∧ HR σ g.blk.get w' ∧ Ext ρ σ h g w w')
def part (h : Aa) : Option (List Nat) → Aa
 | some ids => { blk := Cs h ids, nx := h.nx, log := [] }
 | none => { h with log := [] }
theorem Cy (h : Aa) : ∀ (l : List Nat) (b : Nat), (Cs h l).get b = none ∨ (b ∈ l ∧ (Cs h l).get b = h.blk.get b)
 | [], b => .inl rfl
 | c :: r, b => by
  simp only [Cs];cases hc : h.blk.get c with
  | none =>
   rcases Cy h r b with q | ⟨q1, q2⟩
   ·exact .inl q
   ·exact .inr ⟨by simp [q1], q2⟩
  | some x =>
   simp only [T.get_set];by_cases e : c = b
   ·subst e; rw [if_pos rfl]; exact .inr ⟨by simp, hc.symm⟩
   ·rw [if_neg e];rcases Cy h r b with q | ⟨q1, q2⟩
    ·exact .inl q
    ·exact .inr ⟨by simp [q1], q2⟩
theorem HB {h : Aa} (hw : WF h) (fp : Option (List Nat)) : WF (part h fp) := by
 intro b hb;cases fp with
 | none => exact hw b hb
 | some ids =>
  rcases Cy h ids b with q | ⟨_, q⟩
  ·exact q
  ·exact q.trans (hw b hb)
theorem J4 {ρ : Ren} {a : AV} {v : Value} (h : VR ρ a v) : VR ρ (Ql a) v := by
 unfold Ql;split
 ·rename_i b nl;split
  ·rename_i hd;have e := Al U.ok hd;cases h with
   | nmap _ _ base hb hn => rw [hn] at e; cases e
   | nmap0 => exact .map0
  ·rename_i hd;have e := Al U.ok hd;cases h with
   | nmap _ _ base hb hn => exact .map _ base hb
   | nmap0 _ _ hn => rw [hn] at e; cases e
  ·exact h
 ·exact h
theorem CD (t : T AV) : ∀ (l : List Tmp) (i : Tmp) (x : AV), (Be t l).get i = some x → i ∈ l ∧ ∃ y, t.get i = some y ∧ x = Ql y
 | [], i, x, h => by cases h
 | c :: r, i, x, h => by
  simp only [Be] at h;cases hc : t.get c with
  | none =>
   rw [hc] at h;obtain ⟨q1, q2⟩ := CD t r i x h;exact ⟨by simp [q1], q2⟩
  | some y =>
   rw [hc] at h;simp only [T.get_set] at h;by_cases e : c = i
   ·subst e; rw [if_pos rfl] at h; cases h; exact ⟨by simp, _, hc, rfl⟩
   ·rw [if_neg e] at h;obtain ⟨q1, q2⟩ := CD t r i x h;exact ⟨by simp [q1], q2⟩
section
variable {E : Env} (hE : OK E) {callF : Ask → Aa → Option (Bool × AV × Aa)} {ρ : Ren} {h : Aa} {w : World} {c : Frame} {cs : List Frame}
include hE
theorem JY (hF : H2 E callF) {all : Array Oper} {o : Oper} {nt : Nat} {t : T AV} {d : Did} {i : Nat} {rest : List Nat} {k : List Item} (hd : Ep E callF all o t h = some d) (hwf : WF h) (hm : c.mode = .run)
  (htd : c.todo = .inRegion all (i :: rest) :: k) (ho : all[i]? = some o) (ht : TR ρ nt t c.tmps) (hr : HR ρ (part h d.fp).blk.get w) (hfree : AN ρ h.nx d.g.nx) :
  ∃ σ v' w', Bk E.P (lone c cs w) c cs d.ok v' w' ∧ VR σ d.v v' ∧ HR σ d.g.blk.get w' ∧ Ext ρ σ (part h d.fp) d.g w w' := by
 have hev : EvR ρ t c.eval := by
  intro x;have := HK ht x;cases x <;> exact this
 unfold Ep at hd;split at hd
 ·cases hd
 ·rename_i hw;have hwt := Bu ht hw;cases hd;exact ⟨ρ, undef, w, Steps.one (JP hm htd ho hwt), VR.undef ρ, hr, Ext.refl _ _ _⟩
 ·rename_i hw;have hwt := Bu ht hw;split at hd
  ·rename_i hsim
   have hnd : ∀ cl, o.op ≠ .defer cl := by
    intro cl e;rw [e] at hsim;cases hsim
   simp only at hd;split at hd
   ·rename_i v g hop;cases hd;have hdoes := Ip hE (h := part h (some (Pk t h o.op))) hr hev o;rw [show aop E t (part h (some (Pk t h o.op))) o.op = _ from hop] at hdoes
    obtain ⟨σ, v', w', q1, q2, q3, q4⟩ := hdoes hfree;exact ⟨σ, v', w', Steps.one (Nj hm htd ho hwt (.inr hnd) q1), q2, q3, q4⟩
   ·cases hd
  ·have hndef : ∀ {r : Res}, aop E t { h with log := [] } o.op = r → (∀ d g, r ≠ .defer d g) → (∀ y, r ≠ .bad y) → ∀ cl, o.op ≠ .defer cl := by
    intro r hop n1 n2 cl e;rw [e] at hop;simp only [aop] at hop;rcases Du t cl { h with log := [] } with ⟨d, hq⟩ | ⟨y, hq⟩
    ·exact n1 _ _ (hop.symm.trans hq)
    ·exact n2 _ (hop.symm.trans hq)
   split at hd
   ·rename_i f args h' hop;split at hd
    ·rename_i ok v g hcall;cases hd;have hdoes := Ip hE (h := part h none) hr hev o;rw [show aop E t (part h none) o.op = _ from hop] at hdoes
     obtain ⟨rfl, args', ha, hrun⟩ := hdoes;have hnd := hndef hop (fun _ _ e => by cases e) (fun _ e => by cases e)
     obtain ⟨σ, v', w', q1, q2, q3, q4⟩ := hF.1 f args args' (part h none) g ok v ρ w ha hr (HB hwf none) hcall hfree c cs;exact ⟨σ, v', w', q1.head (LC hm htd ho hwt (.inr hnd) hrun), q2, q3, q4⟩
    ·cases hd
   ·rename_i l args h' hop;split at hd
    ·rename_i ok v g hcall;cases hd;have hdoes := Ip hE (h := part h none) hr hev o;rw [show aop E t (part h none) o.op = _ from hop] at hdoes
     obtain ⟨rfl, b, args', hb, ha, hrun⟩ := hdoes;have hnd := hndef hop (fun _ _ e => by cases e) (fun _ e => by cases e)
     obtain ⟨fr, hfr, hgo⟩ := hF.2 l args (part h none) g ok v ρ w hr (HB hwf none) hcall hfree;obtain ⟨fn, tm, assign, body, q1, q2⟩ := Jg (E := E) (h := h) hr hb (show EG l args h = some fr from hfr) ha
     obtain ⟨σ, v', w', p1, p2, p3, p4⟩ := hgo _ q2 c cs;exact ⟨σ, v', w', p1.head (Qu hm htd ho hwt (.inr hnd) (hrun.trans q1)), p2, p3, p4⟩
    ·cases hd
   ·cases hd
end
end Go.AE
namespace Go.AE
variable [U : Unk]
theorem FV {b : Nat} : ∀ {l : List Nat}, I5 b l = true ↔ b ∈ l
 | [] => by simp [I5]
 | c :: r => by
  simp only [I5, List.mem_cons];cases e : Nat.beq b c with
  | true => simp [Aq e]
  | false => simp only; rw [FV]; simp [ML e]
theorem Fu : ∀ {l m : List Nat}, H1 l m = true → ∀ b ∈ l, b ∉ m
 | [], m, _, b, hb => by cases hb
 | c :: r, m, h, b, hb => by
  simp only [H1] at h;cases e : I5 c m with
  | true => rw [e] at h; cases h
  | false =>
   rw [e] at h;rcases List.mem_cons.1 hb with rfl | hb
   ·exact fun hm => by rw [FV.2 hm] at e; cases e
   ·exact Fu h b hb
theorem LV {lo hi : Nat} : ∀ {l : List Nat}, Q1 lo hi l = true → ∀ b ∈ l, ¬ (lo ≤ b ∧ b < hi)
 | [], _, b, hb => by cases hb
 | c :: r, h, b, hb => by
  simp only [Q1] at h;cases e : Nat.ble lo c && Nat.blt c hi with
  | true => rw [e] at h; cases h
  | false =>
   rw [e] at h;rcases List.mem_cons.1 hb with rfl | hb
   ·rintro ⟨h1, h2⟩
    have : (Nat.ble lo b && Nat.blt b hi) = true := by simp [Nat.ble_eq, Nat.blt_eq, h1, h2]
    rw [this] at e; cases e
   ·exact LV h b hb
theorem BG {n b : Nat} : ∀ {l : List Nat}, b ∈ BO n l ↔ b ∈ l ∧ b < n
 | [] => by simp [BO]
 | c :: r => by
  simp only [BO];cases e : Nat.blt c n with
  | true =>
   simp only [List.mem_cons, BG];have : c < n := by simpa [Nat.blt_eq] using e
   constructor
   ·rintro (rfl | h)
    ·exact ⟨.inl rfl, this⟩
    ·exact ⟨.inr h.1, h.2⟩
   ·rintro ⟨rfl | h, h2⟩
    ·exact .inl rfl
    ·exact .inr ⟨h, h2⟩
  | false =>
   simp only [List.mem_cons, BG]
   have : ¬ c < n := by
    intro h; have : Nat.blt c n = true := by simpa [Nat.blt_eq] using h
    rw [this] at e; cases e
   constructor
   ·rintro h; exact ⟨.inr h.1, h.2⟩
   ·rintro ⟨rfl | h, h2⟩
    ·exact absurd h2 this
    ·exact ⟨h, h2⟩
structure Rc.Apart (x y : Rc) : Prop where
 fp1 : ∀ b ∈ x.wr, ∀ l, y.fp = some l → b ∉ l
 fp1n : y.fp = none → x.wr = []
 fp2 : ∀ b ∈ y.wr, ∀ l, x.fp = some l → b ∉ l
 fp2n : x.fp = none → y.wr = []
 wr : ∀ b ∈ x.wr, b ∉ y.wr
 out : ∀ b ∈ y.wr, ¬ (x.lo ≤ b ∧ b < x.hi)
 look1 : ∀ t, x.dst = some t → t ∉ y.looks
 look2 : ∀ t, y.dst = some t → t ∉ x.looks
 dst : ∀ t, x.dst = some t → y.dst ≠ some t
theorem G9 {w l : List Nat} (h : IC w (some l) = true) : ∀ b ∈ w, b ∉ l := Fu h
theorem Rc.apart_ok {x y : Rc} (h : x.apart y = true) : x.Apart y := by
 simp only [Rc.apart, Bool.and_eq_true, Bool.not_eq_true'] at h;obtain ⟨⟨⟨⟨⟨⟨h1, h2⟩, h3⟩, h4⟩, h5⟩, h6⟩, h7⟩ := h;refine ⟨fun b hb l hl => ?_, fun hn => ?_, fun b hb l hl => ?_, fun hn => ?_, Fu h3, LV h4, fun t ht hm => ?_, fun t ht hm => ?_, fun t ht ht' => ?_⟩
 ·rw [hl] at h1; exact G9 h1 b hb
 ·rw [hn] at h1; simpa [IC] using h1
 ·rw [hl] at h2; exact G9 h2 b hb
 ·rw [hn] at h2; simpa [IC] using h2
 ·rw [ht] at h5; rw [Ri, FV.2 hm] at h5; cases h5
 ·rw [ht] at h6; rw [Ri, FV.2 hm] at h6; cases h6
 ·rw [ht, ht', RB, DH] at h7; cases h7
theorem OX (m i : Nat) : Nat.beq (m / 2 ^ i % 2) 1 = m.testBit i := by
 rw [Nat.testBit_eq_decide_div_mod_eq];by_cases h : m / 2 ^ i % 2 = 1
 ·rw [h]; rfl
 ·rw [C3 h]; simp [h]
theorem Hi {y : Rc} : ∀ {l : List Rc} {p : Nat}, DX y l p = true → ∀ i x, l[i]? = some x → y.mask.testBit (p + i) = true ∨ x.Apart y
 | [], p, h, i, x, hx => by cases hx
 | c :: r, p, h, i, x, hx => by
  simp only [DX, OX] at h;cases e : y.mask.testBit p || c.apart y with
  | false => rw [e] at h; cases h
  | true =>
   rw [e] at h;cases i with
   | zero =>
    simp only [List.getElem?_cons_zero, Option.some.injEq] at hx;subst hx;rcases Bool.or_eq_true_iff.1 e with e | e
    ·exact .inl e
    ·exact .inr (Rc.apart_ok e)
   | succ i =>
    have := Hi h i x (by simpa using hx)
    rw [show p + (i + 1) = p + 1 + i by omega]
    exact this
theorem CG {recs : List Rc} : ∀ {es : List Edge} {m : Nat}, BM recs es = some m →
  (∀ e ∈ es, Region.binds .any e = true → ∃ x, recs[e.on]? = some x) ∧
  ∀ i, m.testBit i = true ↔ ∃ e ∈ es, Region.binds .any e = true ∧ ∃ x, recs[e.on]? = some x ∧ (x.mask.testBit i = true ∨ i = e.on)
 | [], m, h => by
  simp only [BM, Option.some.injEq] at h;subst h;simp
 | e :: r, m, h => by
  simp only [BM] at h;cases hr : BM recs r with
  | none => rw [hr] at h; cases h
  | some m1 =>
   rw [hr] at h;obtain ⟨q1, q2⟩ := CG hr;simp only at h;cases hb : Region.binds .any e with
   | false =>
    rw [hb] at h;simp only [Option.some.injEq] at h;subst h;refine ⟨fun a ha hab => ?_, fun i => ?_⟩
    ·rcases List.mem_cons.1 ha with rfl | ha
     ·rw [hb] at hab; cases hab
     ·exact q1 a ha hab
    ·rw [q2];constructor
     ·rintro ⟨a, ha, hh⟩; exact ⟨a, by simp [ha], hh⟩
     ·rintro ⟨a, ha, hab, hh⟩
      rcases List.mem_cons.1 ha with rfl | ha
      ·rw [hb] at hab; cases hab
      ·exact ⟨a, ha, hab, hh⟩
   | true =>
    rw [hb] at h;simp only at h;cases hx : recs[e.on]? with
    | none => rw [hx] at h; cases h
    | some x =>
     rw [hx] at h;simp only [Option.some.injEq] at h;subst h;refine ⟨fun a ha hab => ?_, fun i => ?_⟩
     ·rcases List.mem_cons.1 ha with rfl | ha
      ·exact ⟨x, hx⟩
      ·exact q1 a ha hab
     ·simp only [Nat.testBit_or, Bool.or_eq_true, Nat.testBit_two_pow, decide_eq_true_eq, q2];constructor
      ·rintro ((⟨a, ha, hh⟩ | h) | h)
       ·exact ⟨a, by simp [ha], hh⟩
       ·exact ⟨e, by simp, hb, x, hx, .inl h⟩
       ·exact ⟨e, by simp, hb, x, hx, .inr h.symm⟩
      ·rintro ⟨a, ha, hab, y, hy, hh⟩
       rcases List.mem_cons.1 ha with rfl | ha
       ·rw [hx] at hy;cases hy;rcases hh with hh | hh
        ·exact .inl (.inr hh)
        ·exact .inr hh.symm
       ·exact .inl (.inl ⟨a, ha, hab, y, hy, hh⟩)
theorem D2 (blk g : T Ag) : ∀ (l : List Nat) (b : Nat), (b ∉ l → (FG blk g l).get b = blk.get b) ∧ (b ∈ l → (FG blk g l).get b = none ∨ (blk.get b ≠ none ∧ (FG blk g l).get b = g.get b))
 | [], b => ⟨fun _ => rfl, (fun h => by cases h)⟩
 | c :: r, b => by
  have ih := D2 blk g r b;simp only [FG];split
  ·rename_i x y hx hy;rw [T.get_set];refine ⟨fun h => ?_, fun h => ?_⟩
   ·rw [if_neg (by rintro rfl; simp at h)]; exact ih.1 (by simp at h; exact h.2)
   ·by_cases e : c = b
    ·subst e; rw [if_pos rfl]; exact .inr ⟨(by rw [hy]; exact Option.some_ne_none _), hx.symm⟩
    ·rw [if_neg e]; exact ih.2 ((List.mem_cons.1 h).resolve_left (fun q => e q.symm))
  ·rw [T.get_del];refine ⟨fun h => ?_, fun h => ?_⟩
   ·rw [if_neg (by rintro rfl; simp at h)]; exact ih.1 (by simp at h; exact h.2)
   ·by_cases e : c = b
    ·subst e; rw [if_pos rfl]; exact .inl rfl
    ·rw [if_neg e]; exact ih.2 ((List.mem_cons.1 h).resolve_left (fun q => e q.symm))
theorem D7 (blk g : T Ag) : ∀ (n i b : Nat), (G3 blk g i n).get b = if i ≤ b ∧ b < i + n ∧ g.get b ≠ none then g.get b else blk.get b
 | 0, i, b => by
  simp only [G3];rw [if_neg (by omega)]
 | n + 1, i, b => by
  have ih := D7 blk g n (i + 1) b;simp only [G3];cases hg : g.get i with
  | none =>
   simp only;rw [ih];by_cases e : i = b
   ·subst e;rw [if_neg (by omega), if_neg (by rintro ⟨_, _, h⟩; exact h hg)]
   ·by_cases q : i + 1 ≤ b ∧ b < i + 1 + n ∧ g.get b ≠ none
    ·rw [if_pos q, if_pos ⟨by omega, by omega, q.2.2⟩]
    ·rw [if_neg q, if_neg (by rintro ⟨h1, h2, h3⟩; exact q ⟨by omega, by omega, h3⟩)]
  | some x =>
   simp only [T.get_set];by_cases e : i = b
   ·subst e;rw [if_pos rfl, if_pos ⟨by omega, by omega, (by rw [hg]; exact Option.some_ne_none _)⟩, hg]
   ·rw [if_neg e, ih];by_cases q : i + 1 ≤ b ∧ b < i + 1 + n ∧ g.get b ≠ none
    ·rw [if_pos q, if_pos ⟨by omega, by omega, q.2.2⟩]
    ·rw [if_neg q, if_neg (by rintro ⟨h1, h2, h3⟩; exact q ⟨by omega, by omega, h3⟩)]
section
variable {h g : Aa}
theorem BV (hn : h.nx ≤ g.nx) {b : Nat} (hb : b ∉ BO h.nx g.log) (ho : b < h.nx ∨ g.nx ≤ b) : (AZ h g).blk.get b = h.blk.get b := by
 simp only [AZ, D7];rw [if_neg (by omega)]
 exact (D2 _ _ _ b).1 hb
theorem EY {b : Nat} (hb : b ∈ BO h.nx g.log) : (AZ h g).blk.get b = none ∨ (h.blk.get b ≠ none ∧ (AZ h g).blk.get b = g.blk.get b) := by
 have hlt := (BG.1 hb).2;simp only [AZ, D7];rw [if_neg (by omega)]
 exact (D2 _ _ _ b).2 hb
theorem Fv (hw : WF h) (hn : h.nx ≤ g.nx) {b : Nat} (h1 : h.nx ≤ b) (h2 : b < g.nx) : (AZ h g).blk.get b = g.blk.get b := by
 simp only [AZ, D7];have hb : b ∉ BO h.nx g.log := fun e => by have := (BG.1 e).2; omega
 cases hg : g.blk.get b with
 | none =>
  rw [if_neg (by rintro ⟨_, _, h⟩; exact h rfl), (D2 _ _ _ b).1 hb, hw b h1]
 | some x => rw [if_pos ⟨h1, by omega, fun e => by cases e⟩]
theorem E5 (hw : WF h) (hn : h.nx ≤ g.nx) : WF (AZ h g) := by
 intro b hb;have hb' : g.nx ≤ b := hb;rw [BV hn (fun e => by have := (BG.1 e).2; omega) (.inr hb')]
 exact hw b (by omega)
theorem EI (hw : WF h) (hn : h.nx ≤ g.nx) {b : Nat} (hb : (AZ h g).blk.get b ≠ none) : h.blk.get b ≠ none ∨ (h.nx ≤ b ∧ b < g.nx) := by
 by_cases h1 : b < h.nx
 ·by_cases h2 : b ∈ BO h.nx g.log
  ·rcases EY h2 with q | ⟨q, _⟩
   ·exact absurd q hb
   ·exact .inl q
  ·rw [BV hn h2 (.inl h1)] at hb; exact .inl hb
 ·by_cases h2 : b < g.nx
  ·exact .inr ⟨by omega, h2⟩
  ·exact absurd (E5 hw hn b (by show g.nx ≤ b; omega)) hb
end
end Go.AE
namespace Go.AE
variable [U : Unk]
structure Tx (E : Env) (callF : Ask → Aa → Option (Bool × AV × Aa)) (all : Array Oper) (H : Nat → Aa) (Tm : Nat → T AV) (R : Nat → Rc) (Dd : Nat → Did) (j : Nat) (o : Oper) : Prop where
 mask : BM ((List.range j).map R) o.after.toList = some (R j).mask
 did : Ep E callF all o (Be (Tm j) (BI all o)) (H j) = some (Dd j)
 nx : (H j).nx ≤ (Dd j).g.nx
structure Good (E : Env) (callF : Ask → Aa → Option (Bool × AV × Aa)) (all : Array Oper) (nt : Nat) (H : Nat → Aa) (Tm : Nat → T AV) (R : Nat → Rc) (Dd : Nat → Did) (j : Nat) (o : Oper) : Prop where
 tx : Tx E callF all H Tm R Dd j o
 wr : (R j).wr = BO (H j).nx (Dd j).g.log
 fp : (R j).fp = (Dd j).fp
 lo : (R j).lo = (H j).nx
 hi : (R j).hi = (Dd j).g.nx
 dst : (R j).dst = o.dst
 looks : (R j).looks = BI all o
 apart : DX (R j) ((List.range j).map R) 0 = true
 put : Iv nt (Tm j) o.dst (Dd j).v = some (Tm (j + 1))
 heap : H (j + 1) = AZ (H j) (Dd j).g
 ok : (Dd j).ok = true
structure Bad (E : Env) (callF : Ask → Aa → Option (Bool × AV × Aa)) (all : Array Oper) (H : Nat → Aa) (Tm : Nat → T AV) (R : Nat → Rc) (Dd : Nat → Did) (j : Nat) (o : Oper) (rest : List Oper) : Prop where
 tx : Tx E callF all H Tm R Dd j o
 ok : (Dd j).ok = false
 all : (R j).mask + 1 = 2 ^ j
 after : ∃ recs : List Rc, recs.length = j ∧ recs = (List.range j).map R ∧ DM (recs ++ [{ wr := [], fp := none, lo := 0, hi := 0, dst := none, looks := [], mask := (R j).mask }]) j rest = true
section
variable {E : Env} {callF : Ask → Aa → Option (Bool × AV × Aa)} {all : Array Oper} {nt : Nat}
theorem Gq {α : Type} {R : Nat → α} {recs : List α} (h : ∀ i x, recs[i]? = some x → R i = x) : (List.range recs.length).map R = recs := by
 apply List.ext_getElem (by simp)
 intro i h1 h2;simp only [List.getElem_map, List.getElem_range];exact h i _ (by simp [h2])
theorem F7 : ∀ (l : List Oper) (recs : List Rc) (tmps : T AV) (h : Aa) (r : Option AV) (tmps' : T AV) (h' : Aa), Cd E callF all nt l recs tmps h = some (r, tmps', h') →
  ∃ H Tm R Dd m, (∀ i x, recs[i]? = some x → R i = x) ∧ H recs.length = h ∧ Tm recs.length = tmps ∧ (∀ i, i < m → ∃ o, l[i]? = some o ∧ Good E callF all nt H Tm R Dd (recs.length + i) o) ∧
   (r = none → m = l.length ∧ tmps' = Tm (recs.length + m) ∧ h' = H (recs.length + m)) ∧
   (∀ v, r = some v → ∃ o, l[m]? = some o ∧ Bad E callF all H Tm R Dd (recs.length + m) o (l.drop (m + 1)) ∧ v = (Dd (recs.length + m)).v ∧ tmps' = Tm (recs.length + m) ∧ h' = AZ (H (recs.length + m)) (Dd (recs.length + m)).g)
 | [], recs, tmps, h, r, tmps', h', hd => by
  simp only [Cd, Option.some.injEq, Prod.mk.injEq] at hd;obtain ⟨rfl, rfl, rfl⟩ := hd;exact ⟨fun _ => h, fun _ => tmps, fun i => recs.getD i default, fun _ => default, 0, fun i x hx => by simp [hx], rfl, rfl, fun i hi => absurd hi (Nat.not_lt_zero _), fun _ => ⟨rfl, rfl, rfl⟩, (fun v hv => by cases hv)⟩
 | o :: rest, recs, tmps, h, r, tmps', h', hd => by
  simp only [Cd] at hd;cases hmask : BM recs o.after.toList with
  | none => rw [hmask] at hd; cases hd
  | some mask =>
   rw [hmask] at hd;simp only at hd;cases hdid : Ep E callF all o (Be tmps (BI all o)) h with
   | none => rw [hdid] at hd; cases hd
   | some d =>
    rw [hdid] at hd;simp only at hd;cases hnx : Nat.ble h.nx d.g.nx with
    | false => rw [hnx] at hd; cases hd
    | true =>
     have hle : h.nx ≤ d.g.nx := Nat.le_of_ble_eq_true hnx;cases hok : d.ok with
     | true =>
      rw [hnx, hok] at hd;simp only at hd;cases hap : DX { wr := BO h.nx d.g.log, fp := d.fp, lo := h.nx, hi := d.g.nx, dst := o.dst, looks := BI all o, mask } recs 0 with
      | false => rw [hap] at hd; cases hd
      | true =>
       rw [hap] at hd;simp only at hd;cases hput : Iv nt tmps o.dst d.v with
       | none => rw [hput] at hd; cases hd
       | some t1 =>
        rw [hput] at hd;simp only at hd;obtain ⟨H, Tm, R, Dd, m, q1, q2, q3, q4, q5, q6⟩ := F7 rest _ t1 _ r tmps' h' hd;have hl : (recs ++ [({ wr := BO h.nx d.g.log, fp := d.fp, lo := h.nx, hi := d.g.nx, dst := o.dst, looks := BI all o, mask } : Rc)]).length = recs.length + 1 := by simp
        rw [hl] at q2 q3 q4 q5 q6;have hR : R recs.length = { wr := BO h.nx d.g.log, fp := d.fp, lo := h.nx, hi := d.g.nx, dst := o.dst, looks := BI all o, mask } := q1 _ _ (by simp)
        have hrecs : ∀ i x, recs[i]? = some x → R i = x := fun i x hx => q1 i x (by rw [List.getElem?_append_left (List.getElem?_eq_some_iff.1 hx).1]; exact hx)
        have hmr := Gq hrecs;have hH1 : ∀ j, recs.length + 1 ≤ j → (fun i => if i ≤ recs.length then h else H i) j = H j := fun j hj => if_neg (by omega)
        have hT1 : ∀ j, recs.length + 1 ≤ j → (fun i => if i ≤ recs.length then tmps else Tm i) j = Tm j := fun j hj => if_neg (by omega)
        have hD1 : ∀ j, recs.length + 1 ≤ j → (fun i => if i ≤ recs.length then d else Dd i) j = Dd j := fun j hj => if_neg (by omega)
        have hH0 : (fun i => if i ≤ recs.length then h else H i) recs.length = h := if_pos (Nat.le_refl _)
        have hT0 : (fun i => if i ≤ recs.length then tmps else Tm i) recs.length = tmps := if_pos (Nat.le_refl _)
        have hD0 : (fun i => if i ≤ recs.length then d else Dd i) recs.length = d := if_pos (Nat.le_refl _)
        generalize (fun i => if i ≤ recs.length then h else H i) = H' at hH1 hH0
        generalize (fun i => if i ≤ recs.length then tmps else Tm i) = Tm' at hT1 hT0
        generalize (fun i => if i ≤ recs.length then d else Dd i) = Dd' at hD1 hD0
        have htx : ∀ j x, recs.length + 1 ≤ j → Tx E callF all H Tm R Dd j x → Tx E callF all H' Tm' R Dd' j x := by
         intro j x hj t;refine ⟨t.mask, ?_, ?_⟩
         ·rw [hT1 j hj, hH1 j hj, hD1 j hj]; exact t.did
         ·rw [hH1 j hj, hD1 j hj]; exact t.nx
        have hplus : ∀ i, recs.length + (i + 1) = recs.length + 1 + i := fun i => by omega
        refine ⟨H', Tm', R, Dd', m + 1, hrecs, hH0, hT0, ?_, ?_, ?_⟩
        ·intro i hi;cases i with
         | zero =>
          refine ⟨o, rfl, ⟨⟨?_, ?_, ?_⟩, ?_, ?_, ?_, ?_, ?_, ?_, ?_, ?_, ?_, ?_⟩⟩
          ·rw [Nat.add_zero, hmr, hR]; exact hmask
          ·rw [Nat.add_zero, hT0, hH0, hD0]; exact hdid
          ·rw [Nat.add_zero, hH0, hD0]; exact hle
          ·rw [Nat.add_zero, hR, hH0, hD0]
          ·rw [Nat.add_zero, hR, hD0]
          ·rw [Nat.add_zero, hR, hH0]
          ·rw [Nat.add_zero, hR, hD0]
          ·rw [Nat.add_zero, hR]
          ·rw [Nat.add_zero, hR]
          ·rw [Nat.add_zero, hmr, hR]; exact hap
          ·rw [Nat.add_zero, hT0, hD0, hT1 _ (Nat.le_refl _), q3]; exact hput
          ·show H' (recs.length + 1) = AZ (H' recs.length) (Dd' recs.length).g;rw [hH0, hD0, hH1 _ (Nat.le_refl _), q2]
          ·rw [Nat.add_zero, hD0]; exact hok
         | succ i =>
          obtain ⟨x, hx, g⟩ := q4 i (by omega)
          have hj : recs.length + 1 ≤ recs.length + 1 + i := by omega
          refine ⟨x, by simpa using hx, ?_⟩
          rw [hplus];refine ⟨htx _ _ hj g.tx, ?_, ?_, ?_, ?_, g.dst, g.looks, g.apart, ?_, ?_, ?_⟩
          ·rw [hH1 _ hj, hD1 _ hj]; exact g.wr
          ·rw [hD1 _ hj]; exact g.fp
          ·rw [hH1 _ hj]; exact g.lo
          ·rw [hD1 _ hj]; exact g.hi
          ·rw [hT1 _ hj, hD1 _ hj, hT1 _ (by omega)]; exact g.put
          ·rw [hH1 _ hj, hD1 _ hj, hH1 _ (by omega)]; exact g.heap
          ·rw [hD1 _ hj]; exact g.ok
        ·intro hr;obtain ⟨r1, r2, r3⟩ := q5 hr;refine ⟨by simp [r1], ?_, ?_⟩
         ·rw [hplus, hT1 _ (by omega)]; exact r2
         ·rw [hplus, hH1 _ (by omega)]; exact r3
        ·intro v hv;obtain ⟨x, hx, b, r1, r2, r3⟩ := q6 v hv;have hj : recs.length + 1 ≤ recs.length + 1 + m := by omega
         refine ⟨x, by simpa using hx, ?_, ?_, ?_, ?_⟩
         ·rw [hplus];exact ⟨htx _ _ hj b.tx, by rw [hD1 _ hj]; exact b.ok, b.all, by simpa using b.after⟩
         ·rw [hplus, hD1 _ hj]; exact r1
         ·rw [hplus, hT1 _ hj]; exact r2
         ·rw [hplus, hH1 _ hj, hD1 _ hj]; exact r3
     | false =>
      rw [hnx, hok] at hd;simp only at hd;cases hc : Nat.beq (mask + 1) (2 ^ recs.length) && DM (recs ++ [{ wr := [], fp := none, lo := 0, hi := 0, dst := none, looks := [], mask }]) recs.length rest with
      | false => rw [hc] at hd; cases hd
      | true =>
       rw [hc] at hd;simp only [Option.some.injEq, Prod.mk.injEq] at hd;obtain ⟨rfl, rfl, rfl⟩ := hd;obtain ⟨c1, c2⟩ := Ak hc
       have hrecs : ∀ i x, recs[i]? = some x → (fun i => if i < recs.length then recs.getD i default else ({ wr := [], fp := none, lo := 0, hi := 0, dst := none, looks := [], mask } : Rc)) i = x := by
        intro i x hx;have := (List.getElem?_eq_some_iff.1 hx).1;simp only [this, if_true];simp [hx]
       have hR : (fun i => if i < recs.length then recs.getD i default else ({ wr := [], fp := none, lo := 0, hi := 0, dst := none, looks := [], mask } : Rc)) recs.length = { wr := [], fp := none, lo := 0, hi := 0, dst := none, looks := [], mask } := if_neg (Nat.lt_irrefl _)
       generalize (fun i => if i < recs.length then recs.getD i default else ({ wr := [], fp := none, lo := 0, hi := 0, dst := none, looks := [], mask } : Rc)) = R at hrecs hR
       have hmr := Gq hrecs;refine ⟨fun _ => h, fun _ => tmps, R, fun _ => d, 0, hrecs, rfl, rfl, fun i hi => absurd hi (Nat.not_lt_zero _), (fun hv => by cases hv), fun v hv => ?_⟩
       cases hv;refine ⟨o, rfl, ⟨⟨?_, hdid, hle⟩, hok, ?_, recs, rfl, ?_, ?_⟩, rfl, rfl, rfl⟩
       ·rw [Nat.add_zero, hmr, hR]; exact hmask
       ·show (R recs.length).mask + 1 = 2 ^ recs.length;rw [hR]; exact Aq c1
       ·rw [Nat.add_zero, hmr]
       ·rw [Nat.add_zero, hR]; simpa using c2
end
end Go.AE
namespace Go.AE
variable [U : Unk]
def ins (D : Nat → Bool) (j : Nat) : Nat → Bool := fun i => if i = j then true else D i
def Cn (H : Nat → Aa) (R : Nat → Rc) (D : Nat → Bool) : Nat → Nat → Option Ag
 | 0, b => (H 0).blk.get b
 | j + 1, b => if D j = true ∧ (b ∈ (R j).wr ∨ ((R j).lo ≤ b ∧ b < (R j).hi)) then (H (j + 1)).blk.get b else Cn H R D j b
def Tn (Tm : Nat → T AV) (R : Nat → Rc) (D : Nat → Bool) : Nat → Tmp → Option AV
 | 0, t => (Tm 0).get t
 | j + 1, t => if D j = true ∧ (R j).dst = some t then (Tm (j + 1)).get t else Tn Tm R D j t
structure Bt (E : Env) (callF : Ask → Aa → Option (Bool × AV × Aa)) (all : Array Oper) (nt : Nat) (H : Nat → Aa) (Tm : Nat → T AV) (R : Nat → Rc) (Dd : Nat → Did) (n : Nat) : Prop where
 good : ∀ j, j < n → ∃ o, all[j]? = some o ∧ Good E callF all nt H Tm R Dd j o
 wf : WF (H 0)
section
variable {E : Env} {callF : Ask → Aa → Option (Bool × AV × Aa)} {all : Array Oper} {nt : Nat} {H : Nat → Aa} {Tm : Nat → T AV} {R : Nat → Rc} {Dd : Nat → Did} {n : Nat}
 (X : Bt E callF all nt H Tm R Dd n)
include X
theorem Bt.hi {j : Nat} (hj : j < n) : (H (j + 1)).nx = (R j).hi := by
 obtain ⟨o, _, g⟩ := X.good j hj;rw [g.heap, g.hi]; rfl
theorem Bt.lo {j : Nat} (hj : j < n) : (R j).lo = (H j).nx := by
 obtain ⟨o, _, g⟩ := X.good j hj;exact g.lo
theorem Bt.le {j : Nat} (hj : j < n) : (R j).lo ≤ (R j).hi := by
 obtain ⟨o, _, g⟩ := X.good j hj;rw [g.lo, g.hi]; exact g.tx.nx
theorem Bt.mono {i : Nat} : ∀ {j : Nat}, i ≤ j → j ≤ n → (H i).nx ≤ (H j).nx
 | 0, hij, _ => by rw [Nat.le_zero.1 hij]; exact Nat.le_refl _
 | j + 1, hij, hj => by
  rcases Nat.lt_or_ge i (j + 1) with h | h
  ·have := Bt.mono (i := i) (j := j) (by omega) (by omega)
   have h1 := X.hi (j := j) (by omega)
   have h2 := X.lo (j := j) (by omega)
   have h3 := X.le (j := j) (by omega)
   omega
  ·have : i = j + 1 := by omega
   rw [this]; exact Nat.le_refl _
theorem Bt.wfAt : ∀ {j : Nat}, j ≤ n → WF (H j)
 | 0, _ => X.wf
 | j + 1, hj => by
  obtain ⟨o, _, g⟩ := X.good j (by omega)
  rw [g.heap];exact E5 (Bt.wfAt (j := j) (by omega)) g.tx.nx
theorem Bt.bits {j : Nat} (hj : j < n) : ∀ {i : Nat}, (R j).mask.testBit i = true → i < j := by
 induction j using Nat.strongRecOn with
 | ind j ih =>
  intro i hi;obtain ⟨o, _, g⟩ := X.good j hj;obtain ⟨e, he, hb, x, hx, h⟩ := ((CG g.tx.mask).2 i).1 hi
  have hon : e.on < j := by
   have := (List.getElem?_eq_some_iff.1 hx).1;simpa using this
  have hxe : x = R e.on := by
   rw [List.getElem?_map, List.getElem?_range hon] at hx;simpa using hx.symm
  rcases h with h | h
  ·rw [hxe] at h;have := ih e.on hon (by omega) h
   omega
  ·omega
theorem Bt.apart {i j : Nat} (hij : i < j) (hj : j < n) (hb : (R j).mask.testBit i = false) : (R i).Apart (R j) := by
 obtain ⟨o, _, g⟩ := X.good j hj;rcases Hi g.apart i (R i) (by rw [List.getElem?_map, List.getElem?_range hij]; rfl) with h | h
 ·rw [Nat.zero_add, hb] at h; cases h
 ·exact h
theorem Bt.stay {j : Nat} (hj : j < n) {b : Nat} (h1 : b ∉ (R j).wr) (h2 : ¬ ((R j).lo ≤ b ∧ b < (R j).hi)) : (H (j + 1)).blk.get b = (H j).blk.get b := by
 obtain ⟨o, _, g⟩ := X.good j hj;rw [g.wr] at h1;rw [g.lo, g.hi] at h2;rw [g.heap];exact BV g.tx.nx h1 (by omega)
theorem Bt.wr_lt {j : Nat} (hj : j < n) {b : Nat} (hb : b ∈ (R j).wr) : b < (H j).nx := by
 obtain ⟨o, _, g⟩ := X.good j hj;rw [g.wr] at hb;exact (BG.1 hb).2
theorem Bt.cn_text {D : Nat → Bool} {b : Nat} : ∀ {m : Nat}, m ≤ n → (∀ i, i < m → D i = false → b ∉ (R i).wr ∧ ¬ ((R i).lo ≤ b ∧ b < (R i).hi)) → Cn H R D m b = (H m).blk.get b
 | 0, _, _ => rfl
 | m + 1, hm, h => by
  simp only [Cn];by_cases hc : D m = true ∧ (b ∈ (R m).wr ∨ ((R m).lo ≤ b ∧ b < (R m).hi))
  ·rw [if_pos hc]
  ·rw [if_neg hc, Bt.cn_text (m := m) (by omega) fun i hi => h i (by omega)]
   have : b ∉ (R m).wr ∧ ¬ ((R m).lo ≤ b ∧ b < (R m).hi) := by
    cases hD : D m with
    | false => exact h m (by omega) hD
    | true => exact ⟨fun q => hc ⟨hD, .inl q⟩, fun q => hc ⟨hD, .inr q⟩⟩
   exact (X.stay (by omega) this.1 this.2).symm
omit X in
theorem HI {D : Nat → Bool} {b j : Nat} : ∀ {m : Nat}, j ≤ m → (∀ i, j ≤ i → i < m → D i = true → b ∉ (R i).wr ∧ ¬ ((R i).lo ≤ b ∧ b < (R i).hi)) → Cn H R D m b = Cn H R D j b
 | 0, hj, _ => by rw [Nat.le_zero.1 hj]
 | m + 1, hj, h => by
  rcases Nat.lt_or_ge j (m + 1) with hlt | hge
  ·simp only [Cn];rw [if_neg, HI (by omega) fun i h1 h2 => h i h1 (by omega)]
   rintro ⟨hD, q⟩
   obtain ⟨a1, a2⟩ := h m (by omega) (by omega) hD
   exact q.elim a1 a2
  ·rw [show j = m + 1 by omega]
omit X in
theorem Qy {D : Nat → Bool} {b j : Nat} (hD : D j = false) (h1 : b ∉ (R j).wr) (h2 : ¬ ((R j).lo ≤ b ∧ b < (R j).hi)) : ∀ m, Cn H R (ins D j) m b = Cn H R D m b
 | 0 => rfl
 | m + 1 => by
  simp only [Cn];rw [Qy hD h1 h2 m];by_cases e : m = j
  ·subst e;rw [if_neg (by rintro ⟨_, q⟩; exact q.elim h1 h2), if_neg (by rintro ⟨q, _⟩; rw [hD] at q; cases q)]
  ·simp [ins, e]
omit X in
theorem Oz {D : Nat → Bool} {b j m : Nat} (hjm : j < m) (h1 : b ∈ (R j).wr ∨ ((R j).lo ≤ b ∧ b < (R j).hi)) (h2 : ∀ i, j < i → i < m → D i = true → b ∉ (R i).wr ∧ ¬ ((R i).lo ≤ b ∧ b < (R i).hi)) :
  Cn H R (ins D j) m b = (H (j + 1)).blk.get b := by
 rw [HI (j := j + 1) hjm fun i a1 a2 hD => h2 i a1 a2 (by simpa [ins, show i ≠ j by omega] using hD)]
 simp only [Cn];rw [if_pos ⟨by simp [ins], h1⟩]
theorem Bt.tput {j : Nat} (hj : j < n) {t : Tmp} (ht : (R j).dst ≠ some t) : (Tm (j + 1)).get t = (Tm j).get t := by
 obtain ⟨o, _, g⟩ := X.good j hj;have hp := g.put;rw [g.dst] at ht;unfold Iv at hp;split at hp
 ·rename_i d hd;split at hp
  ·simp only [Option.some.injEq] at hp;rw [← hp, T.get_set, if_neg]
   rintro rfl; exact ht hd
  ·cases hp
 ·simp only [Option.some.injEq] at hp;rw [hp]
theorem Bt.tn_text {D : Nat → Bool} {t : Tmp} : ∀ {m : Nat}, m ≤ n → (∀ i, i < m → D i = false → (R i).dst ≠ some t) → Tn Tm R D m t = (Tm m).get t
 | 0, _, _ => rfl
 | m + 1, hm, h => by
  simp only [Tn];by_cases hc : D m = true ∧ (R m).dst = some t
  ·rw [if_pos hc]
  ·rw [if_neg hc, Bt.tn_text (m := m) (by omega) fun i hi => h i (by omega)]
   refine (X.tput (by omega) ?_).symm
   cases hD : D m with
   | false => exact h m (by omega) hD
   | true => exact fun q => hc ⟨hD, q⟩
omit X in
theorem HP {D : Nat → Bool} {t : Tmp} {j : Nat} : ∀ {m : Nat}, j ≤ m → (∀ i, j ≤ i → i < m → D i = true → (R i).dst ≠ some t) → Tn Tm R D m t = Tn Tm R D j t
 | 0, hj, _ => by rw [Nat.le_zero.1 hj]
 | m + 1, hj, h => by
  rcases Nat.lt_or_ge j (m + 1) with hlt | hge
  ·simp only [Tn];rw [if_neg, HP (by omega) fun i h1 h2 => h i h1 (by omega)]
   rintro ⟨hD, q⟩
   exact h m (by omega) (by omega) hD q
  ·rw [show j = m + 1 by omega]
omit X in
theorem O6 {D : Nat → Bool} {t : Tmp} {j : Nat} (hD : D j = false) (h1 : (R j).dst ≠ some t) : ∀ m, Tn Tm R (ins D j) m t = Tn Tm R D m t
 | 0 => rfl
 | m + 1 => by
  simp only [Tn];rw [O6 hD h1 m];by_cases e : m = j
  ·subst e;rw [if_neg (by rintro ⟨_, q⟩; exact h1 q), if_neg (by rintro ⟨q, _⟩; rw [hD] at q; cases q)]
  ·simp [ins, e]
omit X in
theorem OM {D : Nat → Bool} {t : Tmp} {j m : Nat} (hjm : j < m) (h1 : (R j).dst = some t) (h2 : ∀ i, j < i → i < m → D i = true → (R i).dst ≠ some t) : Tn Tm R (ins D j) m t = (Tm (j + 1)).get t := by
 rw [HP (j := j + 1) hjm fun i a1 a2 hD => h2 i a1 a2 (by simpa [ins, show i ≠ j by omega] using hD)]
 simp only [Tn];rw [if_pos ⟨by simp [ins], h1⟩]
end
end Go.AE

