/- What is proved here: an evaluator of the model's steps that the kernel can run, and that whatever it answers is what the model does (part 6 of 6: AeDec5). Conditions: those that each theorem states; they hold of no one program. -/
import Derived.Test.YthhmhljmamjgnaaBeE
set_option linter.unusedSectionVars false
/-! AeDec5 -/
namespace Go.AE
set_option linter.unusedVariables false

/-! ALL FUNCTIONS OF A PROGRAM TOGETHER -/
def jl (d : Dec) : List Nat → List (Nat × List AI)
  | [] => []
  | j :: r => (j, (d.pts.getD j default).todo) :: jl d r
def DecOK (E : Env) (keys : List Nat) (N : Nat) (d : Dec) (T : List (Tr Plf)) : Prop :=
  ∀ (i : Nat) pt, d.pts[i]? = some pt → ∃ l, decPt E keys N d T i = some (jl d l)
theorem jl_mem {d : Dec} : ∀ {l : List Nat} {j : Nat} {td : List AI}, (j, td) ∈ jl d l → ∀ pj, d.pts[j]? = some pj → td = pj.todo
  | [], j, td, h, pj, hp => by cases h
  | a :: r, j, td, h, pj, hp => by
    rcases List.mem_cons.1 h with q | q
    · cases q
      simp [List.getD_eq_getElem?_getD, hp]
    · exact jl_mem q pj hp
theorem DecOK.chk {E : Env} {keys : List Nat} {N : Nat} {d : Dec} {T : List (Tr Plf)} (h : DecOK E keys N d T) (i : Nat) (pt : Pt) (hp : d.pts[i]? = some pt) :
    ∃ js, decPt E keys N d T i = some js ∧ ∀ j td, (j, td) ∈ js → ∀ pj, d.pts[j]? = some pj → td = pj.todo := by
  obtain ⟨l, hl⟩ := h i pt hp
  exact ⟨_, hl, fun j td hm pj hj => jl_mem hm pj hj⟩

def Tr.appsLt (m : Nat) : Tr Plf → Bool
  | .leaf .stuck => true
  | .leaf (.done _ cs) => allFit 1000 m cs
  | .leaf (.next _ θ) => allFit 1000 m θ
  | .split e a b => e.fits 1000 m && a.appsLt m && b.appsLt m
def tabLt (m : Nat) : List (Tr Plf) → Bool
  | [] => true
  | t :: r => t.appsLt m && tabLt m r
def tabsLt : Nat → List (List (Tr Plf)) → Bool
  | _, [] => true
  | m, t :: r => tabLt m t && tabsLt (m + 1) r
/-- the named functions below n -/
def gAt [While] (Ts : List (List (Tr Plf))) : Nat → Nat → D → D
  | 0, _, _ => .row []
  | n + 1, k, x => if k = n then whileD (dstep (Ts.getD n []) (gAt Ts n)) x else gAt Ts n k x
def gAll [While] (Ts : List (List (Tr Plf))) : Nat → D → D := gAt Ts Ts.length
theorem gAt_up [While] (Ts : List (List (Tr Plf))) {k : Nat} (x : D) : ∀ {n : Nat}, k < n → gAt Ts n k x = gAt Ts (k + 1) k x
  | 0, h => by omega
  | n + 1, h => by
    by_cases c : k = n
    · subst c; rfl
    · have : gAt Ts (n + 1) k x = gAt Ts n k x := by show (if k = n then _ else _) = _; rw [if_neg c]
      rw [this]
      exact gAt_up Ts x (by omega)
theorem appsLt_get {m : Nat} {V W : Val} (hd : V.d = W.d) (hf : ∀ i, i < m → V.fn i = W.fn i) : ∀ {t : Tr Plf}, t.appsLt m = true → dlStep V (t.get V) = dlStep W (t.get W) := by
  have ha : V.Alike 1000 m W := ⟨fun i _ => by rw [hd], hf⟩
  intro t
  induction t with
  | leaf l =>
    intro h
    cases l with
    | stuck => rfl
    | done s cs => simp only [Tr.get, dlStep]; rw [allFit_ok ha h]
    | next j θ => simp only [Tr.get, dlStep]; rw [allFit_ok ha h]
  | split e a b iha ihb =>
    intro h
    simp only [Tr.appsLt, Bool.and_eq_true] at h
    have he : evalB V e = evalB W e := by unfold evalB; rw [SE.fits_ok ha e h.1.1]
    simp only [Tr.get, he]
    cases evalB W e with
    | true => exact iha h.1.2
    | false => exact ihb h.2
theorem dstep_lt {m : Nat} {G H : Nat → D → D} (hf : ∀ i, i < m → G i = H i) {T : List (Tr Plf)} (hT : tabLt m T = true) : dstep T G = dstep T H := by
  have key : ∀ (T : List (Tr Plf)), tabLt m T = true → ∀ (i : Nat) t, T[i]? = some t → t.appsLt m = true := by
    intro T
    induction T with
    | nil => intro _ i t h; simp at h
    | cons a r ih =>
      intro h i t hi
      simp only [tabLt, Bool.and_eq_true] at h
      cases i with
      | zero => simp only [List.getElem?_cons_zero, Option.some.injEq] at hi; subst hi; exact h.1
      | succ i => exact ih h.2 i t (by simpa using hi)
  funext x
  unfold dstep
  split
  · rename_i i xs
    split
    · rename_i t ht
      exact appsLt_get (m := m) (V := valD G xs) (W := valD H xs) rfl (fun i hi => hf i hi) (key T hT i t ht)
    · rfl
  · rfl
theorem tabsLt_get : ∀ {Ts : List (List (Tr Plf))} {m : Nat}, tabsLt m Ts = true → ∀ (k : Nat) T, Ts[k]? = some T → tabLt (m + k) T = true
  | [], m, _, k, T, h => by simp at h
  | a :: r, m, h, k, T, hk => by
    simp only [tabsLt, Bool.and_eq_true] at h
    cases k with
    | zero => simp only [List.getElem?_cons_zero, Option.some.injEq] at hk; subst hk; exact h.1
    | succ k =>
      have := tabsLt_get h.2 k T (by simpa using hk)
      rwa [show m + 1 + k = m + (k + 1) by omega] at this
theorem gAll_eq [While] {Ts : List (List (Tr Plf))} (h : tabsLt 0 Ts = true) {k : Nat} {T : List (Tr Plf)} (hk : Ts[k]? = some T) (x : D) : gAll Ts k x = whileD (dstep T (gAll Ts)) x := by
  have hlt : k < Ts.length := (List.getElem?_eq_some_iff.1 hk).1
  have hT := tabsLt_get h k T hk
  rw [Nat.zero_add] at hT
  have e1 : gAll Ts k x = whileD (dstep T (gAt Ts k)) x := by
    unfold gAll
    rw [gAt_up Ts x hlt]
    show (if k = k then _ else _) = _
    rw [if_pos rfl]
    simp [List.getD_eq_getElem?_getD, hk]
  rw [e1, dstep_lt (fun i hi => ?_) hT]
  funext y
  unfold gAll
  rw [gAt_up Ts y hi, gAt_up Ts y (show i < Ts.length by omega)]
def Dec.smL (d : Dec) (args : List AV) (pt : Pt) : Nat → List Sh → List Sm
  | _, [] => []
  | s, sh :: r => d.sm args pt s sh :: d.smL args pt (s + 1) r
theorem OrcOK.decL [While] {P : Program} {l : List Orc} {m : List Sm} {G : Nat → D → D} (hE : ∀ [U : Unk], U.K = (Env.of P).kinds → OK (Env.ofS P l m)) (hO : OrcOK (Env.ofS P l m) G) {d : Dec} {T : List (Tr Plf)} {keys : List Nat} {N : Nat} (hg : ∀ x, G d.g x = whileD (dstep T G) x)
    (hchk : DecOK (Env.ofS P l m) keys N d T) {nv : Nat} {args : List AV} {pre : List (Option ABlk)} {facts : List (SB × Bool)} (hp0 : d.pts[0]? = some (entryPt (Env.of P) d.f nv args pre facts)) (hent : (enterF (Env.of P) d.f args .normal).isSome = true) :
    OrcOK (Env.ofS P l (d.smL args (entryPt (Env.of P) d.f nv args pre facts) 0 d.shs ++ m)) G := by
  have key : ∀ (shs : List Sh) (s0 : Nat), (∀ (i : Nat) sh, shs[i]? = some sh → d.shs[s0 + i]? = some sh) → ∀ x ∈ d.smL args (entryPt (Env.of P) d.f nv args pre facts) s0 shs, x.Valid P G := by
    intro shs
    induction shs with
    | nil => intro s0 _ x hx; cases hx
    | cons sh r ih =>
      intro s0 hs x hx
      rcases List.mem_cons.1 hx with q | q
      · subst q
        exact Dec.sm_ok (E := Env.ofS P l m) hE hO hg hchk.chk hp0 hent (hs 0 sh rfl)
      · exact ih (s0 + 1) (fun i sh' hi => by have := hs (i + 1) sh' (by simpa using hi); rwa [show s0 + (i + 1) = s0 + 1 + i by omega] at this) x q
  refine ⟨hO.orc, fun x hx => ?_⟩
  rcases List.mem_append.1 hx with q | q
  · exact key d.shs 0 (fun i sh hi => by rw [Nat.zero_add]; exact hi) x q
  · exact hO.sms x q
end Go.AE
