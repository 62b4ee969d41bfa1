/- What is proved here: an evaluator of the model's steps that the kernel can run, and that whatever it answers is what the model does (part 7 of 7: AeDec5, AeShort). Conditions: those that each theorem states; they hold of no one program. -/
import Derived.Test.YtkhnegoolkefjaaGreatDoorBeF
set_option linter.unusedVariables false
set_option linter.unusedSectionVars false
set_option linter.unusedSimpArgs false
namespace Go.AE
def jl (d : Dec) : List Nat → List (Nat × List AI)
 | [] => []
 | j :: r => (j, (d.pts.getD j default).todo) :: jl d r
def Hq (E : Env) (keys : List Nat) (N : Nat) (d : Dec) (T : List (Tr Plf)) : Prop :=
 ∀ (i : Nat) pt, d.pts[i]? = some pt → ∃ l, B5 E keys N d T i = some (jl d l)
theorem Pq {d : Dec} : ∀ {l : List Nat} {j : Nat} {td : List AI}, (j, td) ∈ jl d l → ∀ pj, d.pts[j]? = some pj → td = pj.todo
 | [], j, td, h, pj, hp => by cases h
 | a :: r, j, td, h, pj, hp => by
  rcases List.mem_cons.1 h with q | q
  ·cases q;simp [List.getD_eq_getElem?_getD, hp]
  ·exact Pq q pj hp
theorem Hq.chk {E : Env} {keys : List Nat} {N : Nat} {d : Dec} {T : List (Tr Plf)} (h : Hq E keys N d T) (i : Nat) (pt : Pt) (hp : d.pts[i]? = some pt) :
  ∃ js, B5 E keys N d T i = some js ∧ ∀ j td, (j, td) ∈ js → ∀ pj, d.pts[j]? = some pj → td = pj.todo := by
 obtain ⟨l, hl⟩ := h i pt hp;exact ⟨_, hl, fun j td hm pj hj => Pq hm pj hj⟩
def Tr.appsLt (m : Nat) : Tr Plf → Bool
 | .leaf .stuck => true
 | .leaf (.done _ cs) => FN 1000 m cs
 | .leaf (.next _ θ) => FN 1000 m θ
 | .split e a b => e.fits 1000 m && a.appsLt m && b.appsLt m
def JF (m : Nat) : List (Tr Plf) → Bool
 | [] => true
 | t :: r => t.appsLt m && JF m r
def FC : Nat → List (List (Tr Plf)) → Bool
 | _, [] => true
 | m, t :: r => JF m t && FC (m + 1) r
def gAt [BA] (Ts : List (List (Tr Plf))) : Nat → Nat → D → D
 | 0, _, _ => .row []
 | n + 1, k, x => if k = n then BB (B2 (Ts.getD n []) (gAt Ts n)) x else gAt Ts n k x
def De [BA] (Ts : List (List (Tr Plf))) : Nat → D → D := gAt Ts Ts.length
theorem KN [BA] (Ts : List (List (Tr Plf))) {k : Nat} (x : D) : ∀ {n : Nat}, k < n → gAt Ts n k x = gAt Ts (k + 1) k x
 | 0, h => by omega
 | n + 1, h => by
  by_cases c : k = n
  ·subst c; rfl
  ·have : gAt Ts (n + 1) k x = gAt Ts n k x := by show (if k = n then _ else _) = _; rw [if_neg c]
   rw [this];exact KN Ts x (by omega)
theorem Mt {m : Nat} {V W : Val} (hd : V.d = W.d) (hf : ∀ i, i < m → V.fn i = W.fn i) : ∀ {t : Tr Plf}, t.appsLt m = true → Cp V (t.get V) = Cp W (t.get W) := by
 have ha : V.Alike 1000 m W := ⟨fun i _ => by rw [hd], hf⟩
 intro t
 induction t with
 | leaf l =>
  intro h;cases l with
  | stuck => rfl
  | done s cs => simp only [Tr.get, Cp]; rw [CX ha h]
  | next j θ => simp only [Tr.get, Cp]; rw [CX ha h]
 | split e a b iha ihb =>
  intro h;simp only [Tr.appsLt, Bool.and_eq_true] at h;have he : Ad V e = Ad W e := by unfold Ad; rw [SE.fits_ok ha e h.1.1]
  simp only [Tr.get, he];cases Ad W e with
  | true => exact iha h.1.2
  | false => exact ihb h.2
theorem Qq {m : Nat} {G H : Nat → D → D} (hf : ∀ i, i < m → G i = H i) {T : List (Tr Plf)} (hT : JF m T = true) : B2 T G = B2 T H := by
 have key : ∀ (T : List (Tr Plf)), JF m T = true → ∀ (i : Nat) t, T[i]? = some t → t.appsLt m = true := by
  intro T
  induction T with
  | nil => intro _ i t h; simp at h
  | cons a r ih =>
   intro h i t hi;simp only [JF, Bool.and_eq_true] at h;cases i with
   | zero => simp only [List.getElem?_cons_zero, Option.some.injEq] at hi; subst hi; exact h.1
   | succ i => exact ih h.2 i t (by simpa using hi)
 funext x
 unfold B2;split
 ·rename_i i xs;split
  ·rename_i t ht;exact Mt (m := m) (V := Hx G xs) (W := Hx H xs) rfl (fun i hi => hf i hi) (key T hT i t ht)
  ·rfl
 ·rfl
theorem HT : ∀ {Ts : List (List (Tr Plf))} {m : Nat}, FC m Ts = true → ∀ (k : Nat) T, Ts[k]? = some T → JF (m + k) T = true
 | [], m, _, k, T, h => by simp at h
 | a :: r, m, h, k, T, hk => by
  simp only [FC, Bool.and_eq_true] at h;cases k with
  | zero => simp only [List.getElem?_cons_zero, Option.some.injEq] at hk; subst hk; exact h.1
  | succ k =>
   have := HT h.2 k T (by simpa using hk)
   rwa [show m + 1 + k = m + (k + 1) by omega] at this
theorem EU [BA] {Ts : List (List (Tr Plf))} (h : FC 0 Ts = true) {k : Nat} {T : List (Tr Plf)} (hk : Ts[k]? = some T) (x : D) : De Ts k x = BB (B2 T (De Ts)) x := by
 have hlt : k < Ts.length := (List.getElem?_eq_some_iff.1 hk).1;have hT := HT h k T hk;rw [Nat.zero_add] at hT
 have e1 : De Ts k x = BB (B2 T (gAt Ts k)) x := by
  unfold De;rw [KN Ts x hlt];show (if k = k then _ else _) = _
  rw [if_pos rfl];simp [List.getD_eq_getElem?_getD, hk]
 rw [e1, Qq (fun i hi => ?_) hT]
 funext y
 unfold De;rw [KN Ts y hi, KN Ts y (show i < Ts.length by omega)]
def Dec.smL (d : Dec) (args : List AV) (pt : Pt) : Nat → List Sh → List Sm
 | _, [] => []
 | s, sh :: r => d.sm args pt s sh :: d.smL args pt (s + 1) r
theorem Ai.decL [BA] {P : Program} {l : List Orc} {m : List Sm} {G : Nat → D → D} (hE : ∀ [U : Unk], U.K = (Env.of P).kinds → OK (Env.ofS P l m)) (hO : Ai (Env.ofS P l m) G) {d : Dec} {T : List (Tr Plf)} {keys : List Nat} {N : Nat} (hg : ∀ x, G d.g x = BB (B2 T G) x)
  (hchk : Hq (Env.ofS P l m) keys N d T) {nv : Nat} {args : List AV} {pre : List (Option Ag)} {facts : List (SB × Bool)} (hp0 : d.pts[0]? = some (CB (Env.of P) d.f nv args pre facts)) (hent : (A9 (Env.of P) d.f args .normal).isSome = true) :
  Ai (Env.ofS P l (d.smL args (CB (Env.of P) d.f nv args pre facts) 0 d.shs ++ m)) G := by
 have key : ∀ (shs : List Sh) (s0 : Nat), (∀ (i : Nat) sh, shs[i]? = some sh → d.shs[s0 + i]? = some sh) → ∀ x ∈ d.smL args (CB (Env.of P) d.f nv args pre facts) s0 shs, x.Valid P G := by
  intro shs
  induction shs with
  | nil => intro s0 _ x hx; cases hx
  | cons sh r ih =>
   intro s0 hs x hx;rcases List.mem_cons.1 hx with q | q
   ·subst q;exact Dec.sm_ok (E := Env.ofS P l m) hE hO hg hchk.chk hp0 hent (hs 0 sh rfl)
   ·exact ih (s0 + 1) (fun i sh' hi => by have := hs (i + 1) sh' (by simpa using hi); rwa [show s0 + (i + 1) = s0 + 1 + i by omega] at this) x q
 refine ⟨hO.orc, fun x hx => ?_⟩
 rcases List.mem_append.1 hx with q | q
 ·exact key d.shs 0 (fun i sh hi => by rw [Nat.zero_add]; exact hi) x q
 ·exact hO.sms x q
abbrev iV (n : Nat) : AV := .si .i64 (.var n)
abbrev sV (n : Nat) : AV := .ss (.var n)
abbrev bV (n : Nat) : AV := .sb true (.var n)
abbrev dV (e : TypeId) (n : Nat) : AV := .dat e (.var n)
abbrev aV (b es n m : Nat) : AV := .asl b es (.lenL (.var n)) (.var m)
abbrev tO (l : List (Nat × AV)) : Option Ag := some (.cells l.length (Cc l))
abbrev rV (e : TypeId) (n : Nat) : Option Ag := some (.arr e (.var n))
class Pg (p : outParam Program) (l : outParam (List Orc)) : Prop where
 it : True
abbrev E0 {p : Program} {l : List Orc} [Pg p l] : Env := Env.of p
abbrev EF {p : Program} {l : List Orc} [Pg p l] (m : Env → List Sm) : Env := Env.ofS p l (m E0)
def rl : List SE → SE
 | [] => .rnil
 | x :: r => .rcons x (rl r)
def us : Nat → Nat → List SE
 | _, 0 => []
 | a, n + 1 => .var a :: us (a + 1) n
section
variable {E : Env} {keys : List Nat} {N : Nat} {d : Dec} {T : List (Tr Plf)}
theorem dkN {n : Nat} (h : d.pts.length = n) (H : ∀ i, i < n → ∃ l, B5 E keys N d T i = some (jl d l)) : Hq E keys N d T := fun i pt hp => H i (by
 rcases Nat.lt_or_ge i n with q | q
 ·exact q
 ·rw [List.getElem?_eq_none (by omega)] at hp
  cases hp)
theorem dk2 {x0 x1 : List Nat} (h : d.pts.length = 2) (h0 : B5 E keys N d T 0 = some (jl d x0)) (h1 : B5 E keys N d T 1 = some (jl d x1)) : Hq E keys N d T := dkN h fun i hi => match i, hi with
 | 0, _ => ⟨_, h0⟩
 | 1, _ => ⟨_, h1⟩
 | i + 2, hi => absurd hi (by omega)
theorem dk4 {x0 x1 x2 x3 : List Nat} (h : d.pts.length = 4) (h0 : B5 E keys N d T 0 = some (jl d x0)) (h1 : B5 E keys N d T 1 = some (jl d x1)) (h2 : B5 E keys N d T 2 = some (jl d x2)) (h3 : B5 E keys N d T 3 = some (jl d x3)) : Hq E keys N d T := dkN h fun i hi => match i, hi with
 | 0, _ => ⟨_, h0⟩
 | 1, _ => ⟨_, h1⟩
 | 2, _ => ⟨_, h2⟩
 | 3, _ => ⟨_, h3⟩
 | i + 4, hi => absurd hi (by omega)
end
end Go.AE

