/- What is proved here: an evaluator of the model's steps that the kernel can run, and that whatever it answers is what the model does (part 6 of 6: AeDec4, AeDec5). Conditions: those that each theorem states; they hold of no one program. -/
import Derived.Test.YthhmhljmamjgnaaBeE
set_option linter.unusedSectionVars false
/-! AeDec4 -/
namespace Go.AE
open Go.RowKit
set_option linter.unusedVariables false

/-! A LAW THAT IS TURNED INTO PLAIN DATA -/
/-- what a law's arguments are, as data -/
def LawArgs (P : Program) (ts : List TypeId) (xs : List D) : Prop := ∃ ks cs M, allKinds (Env.of P) ts = some ks ∧ DVL (Env.of P).kinds M ks cs xs ∧ Can ks xs ∧ CanL (Env.of P).kinds 9 ks xs
theorem law_int {P : Program} {ts : List TypeId} {xs : List D} {k : IntKind} {ks : List Kd} (h : LawArgs P ts xs) (hk : allKinds (Env.of P) ts = some (.int k :: ks)) : ∃ m, xs.getD 0 default = .int m := by
  obtain ⟨ks', cs, M, e, hd, hc, _⟩ := h
  rw [hk] at e
  cases e
  match cs, xs, hd, hc with
  | v :: vs, d :: ds, hd, hc => exact hc.1
def lawSh : Sh := { m := 1, res := .sb true (.var 0), post := [], keep := [] }
def lawFacts (E : Env) (ts : List TypeId) : List (SB × Bool) := match allKinds E ts with
  | some ks => rangeFacts 0 ks
  | none => []
def lawNv (E : Env) (ts : List TypeId) : Nat := match allKinds E ts with
  | some ks => ks.length
  | none => 0
def lawArgs (E : Env) (ts : List TypeId) : List AV := match @symArgs ⟨lawFacts E ts⟩ E 0 ts with
  | some l => l
  | none => []
def lawPt (E : Env) (f : FuncId) (ts : List TypeId) : Pt := entryPt E f (lawNv E ts) (lawArgs E ts) [] (lawFacts E ts)
def lawOk (E : Env) (f : FuncId) (ts : List TypeId) (L : List TypeId) : Bool :=
  closedL E L L && (match allKinds E ts with
    | some ks => ks.all (kdIn L)
    | none => false) && (@symArgs ⟨lawFacts E ts⟩ E 0 ts).isSome && (enterF E f (lawArgs E ts) .normal).isSome

section
variable {E : Env} {L : List TypeId} {H : Type} {enc : TypeId × Value → H} {w : World} {base : Nat} {sp : Nat → Bool} {held : Bool}
theorem law2_ok [While] {G : Nat → D → D} (hE : ∀ [U : Unk], U.K = (Env.of E.P).kinds → OK E) (hke : E.kinds = (Env.of E.P).kinds) (hO : OrcOK E G) {d : Dec} {T : List (Tr Plf)} {keys : List Nat} {N : Nat} (hg : ∀ x, G d.g x = whileD (dstep T G) x)
    (hchk : ∀ (i : Nat) pt, d.pts[i]? = some pt → ∃ js, decPt E keys N d T i = some js ∧ ∀ j td, (j, td) ∈ js → ∀ pj, d.pts[j]? = some pj → td = pj.todo)
    {ts : List TypeId} (hp0 : d.pts[0]? = some (lawPt E d.f ts)) (hsh : d.shs[0]? = some lawSh) (hok : lawOk E d.f ts L = true) (hkk : allKinds E ts = allKinds (Env.of E.P) ts)
    (hplain : ∀ xs, LawArgs E.P ts xs → G d.g (.row (.int 0 :: xs)) = .row [.int 1, .bool true])
    {vs : List Value} {ds : List (DataW H)} {ps : List MemPlace} (hA : DataW.TrodAll enc E.P w base sp held ts vs ds ps) (hval : ∀ (j : Nat) t v, ts[j]? = some t → vs[j]? = some v → ∃ r b0, Value.okWide E.P w r b0 t v) :
    Calls E.P d.f vs.toArray w fun e W' => e = .returned (.bool true) ∧ Below w.heap.size w W' := by
  unfold lawOk at hok
  simp only [Bool.and_eq_true] at hok
  obtain ⟨⟨⟨hL, hin⟩, hsym⟩, hent⟩ := hok
  split at hin
  · rename_i ks hk
    obtain ⟨cs, xs, q1, qc, q2⟩ := args_ok (U := unkOf E.P) (hE (U := unkOf E.P) rfl) hL ts vs ds ps ks hA hval hk hin
    have hlen : ks.length = xs.length := q1.len.2
    have hnv : lawNv E ts = xs.length := by unfold lawNv; rw [hk]; exact hlen
    have hfk : lawFacts E ts = rangeFacts 0 ks := by unfold lawFacts; rw [hk]
    have hF : holdsF (valOf G xs) (lawFacts E ts) := by
      rw [hfk]
      exact rangeFacts_ok (U := unkOf E.P) ks cs xs 0 (fun i hi => by simp [valOf]) q1
    intro cs0
    cases hfr : enterF E d.f (lawArgs E ts) .normal with
    | none => rw [hfr] at hent; cases hent
    | some fr =>
      have hst : stD 0 (lawNv E ts) (valOf G xs) = .row (.int 0 :: xs) := by
        unfold stD
        rw [hnv]
        congr 2
        apply List.ext_getElem
        · simp
        · intro k h1 h2
          simp [valOf, List.getD_eq_getElem?_getD, h2]
      have hres := hplain xs ⟨ks, cs, snap w, by rw [← hkk]; exact hk, by rw [← hke]; exact q1, qc.1, by rw [← hke]; exact qc.2⟩
      rw [hg, ← hst] at hres
      rcases whileD_or (dstep T G) (stD 0 (lawNv E ts) (valOf G xs)) with q | ⟨n, hn⟩
      · rw [q] at hres; cases hres
      · rw [hres] at hn
        have hat := dec_ok hE hO hg hchk n 0 _ 0 lawSh hp0 hsh (valOf G xs) _ rfl hn rfl cs0 _ (goes_end E.P d.f cs0)
        let vv : Vals := { V := valOf G xs, K := E.kinds, R := [], hR := fun _ _ _ _ _ h => (by cases h) }
        have hstE : evalD (valOf G xs) (stE 0 (varsF 0 (lawNv E ts))) = stD 0 (lawNv E ts) (valOf G xs) := by
          rw [stE_eval, varsF_eval]; simp [stD]
        have hval1 : (valOf G xs).fn d.g (evalD (valOf G xs) (stE 0 (varsF 0 (lawNv E ts)))) = .row [.int 1, .bool true] := by
          rw [hstE, ← hres]; exact hg _
        have hfacts : holdsF vv.V (cutOf d 0 (lawPt E d.f ts) 0 lawSh).facts := by
          intro e b hm
          have hm' : (e, b) ∈ lawFacts E ts ++ [(shapeE d.g 0 (varsF 0 (lawNv E ts)) 0, true)] := hm
          rcases List.mem_append.1 hm' with q | q
          · exact hF e b q
          · simp only [List.mem_singleton, Prod.mk.injEq] at q
            obtain ⟨rfl, rfl⟩ := q
            show ((((valOf G xs).fn d.g (evalD (valOf G xs) (stE 0 (varsF 0 (lawNv E ts))))).cells.getD 0 default).toInt == ((0 + 1 : Nat) : Int)) = true
            rw [hval1]; rfl
        have hargs : @VL vv ⟨fun _ => none, snap w⟩ (lawArgs E ts) vs := by
          cases hs : @symArgs ⟨lawFacts E ts⟩ E 0 ts with
          | none => rw [hs] at hsym; cases hsym
          | some as =>
            have e1 : lawArgs E ts = as := by unfold lawArgs; rw [hs]
            rw [e1]
            exact q2 { facts := lawFacts E ts, toVals := vv, ok := hF } 0 as ⟨fun _ => none, snap w⟩ rfl rfl (fun i hi => by show (valOf G xs).d (0 + i) = _; simp [valOf]) hs
        have hEv := hE (U := { facts := lawFacts E ts, toVals := vv, ok := hF }) hke
        have hfrr := enterF_ok (U := { facts := lawFacts E ts, toVals := vv, ok := hF }) hEv hfr hargs
        have efr : (cutOf d 0 (lawPt E d.f ts) 0 lawSh).fr = fr := by
          have hq := hfr
          unfold enterF at hq
          split at hq
          · rename_i fn hfn
            split at hq
            · rename_i c hc
              cases hq
              simp [Cut.fr, cutOf, lawPt, entryPt, entryFr, enterF, hfn, hc, mkDefs]
            · cases hq
          · cases hq
        obtain ⟨σ, v', w', ⟨fr', k1, k2, k3⟩, r1, r2, r3⟩ := hat vv rfl hke rfl hfacts ⟨fun _ => none, snap w⟩ _ w (by rw [efr]; exact hfrr) (start_HR (U := { facts := lawFacts E ts, toVals := vv, ok := hF }) w) (fun b _ => rfl)
        have hv' : v' = .bool true := by
          have e2 : (cutOf d 0 (lawPt E d.f ts) 0 lawSh).res = .sb true (.sel (.app d.g (stE 0 (varsF 0 (lawNv E ts)))) 1) := rfl
          rw [e2] at r1
          cases r1
          have : evalB vv.V (.sel (.app d.g (stE 0 (varsF 0 (lawNv E ts)))) 1) = true := by
            show (((valOf G xs).fn d.g (evalD (valOf G xs) (stE 0 (varsF 0 (lawNv E ts))))).cells.getD 1 default).toBool = true
            rw [hval1]; rfl
          rw [this]; rfl
        subst hv'
        exact ⟨.returned (.bool true), w', fr', ⟨rfl, r3.calm.os, r3.calm.tape, r3.calm.output, r3.calm.size, fun k hk => r3.kept k hk (fun b base h => by cases h)⟩, k1, k2, k3⟩
  · cases hin
end

theorem law2_lifted [While] {H : Type} {enc : TypeId × Value → H} {a : Assume} {C : Checked} {os : Os} {fn : Func} {s : ChangeSpec} {conds : List PathCond} {apart : Bool} {L : List TypeId} {tb : TypeId} {l : List Orc} {m : List Sm} {G : Nat → D → D} {d : Dec} {T : List (Tr Plf)} {keys : List Nat} {N : Nat}
    (own : ownKnob C.prog.godebug = none) (started : os.Started) (noInit : C.prog.inits.idxOf? d.f = none) (hfn : C.prog.funcs[d.f]? = some fn)
    (witness : ∃ (w : World) (tape : Tape) (i : Input), w.os = os ∧ (w.forCall tape i).Shaped C.prog ∧ i.vars = [] ∧ Input.okWide C.prog (w.forCall tape i) .any w.heap.size d.f i ∧
      s.pre6 enc C.prog fn conds apart (w.forCall tape i).memory i.args ∧ a.holds C.prog (lone (Frame.enter C.prog d.f i.args .normal) [] (w.forCall tape i)))
    (hl : laidOutB C.prog = true) (hr : ∀ t ∈ fn.params.toList, C.prog.readableRec t = true ∧ t < C.prog.types.size) (hvars : s.vars = [])
    (hspec : ∀ ds : List (DataW H), ds.length = fn.params.toList.length → s.fn H ds = { results := [.lit (.bool true)], args := ds })
    (hres : fn.resultTypes = #[tb]) (hb : C.prog.underlying tb = some .bool) (hE : ∀ [U : Unk], U.K = (Env.of C.prog).kinds → OK (Env.ofS C.prog l m)) (hO : OrcOK (Env.ofS C.prog l m) G)
    (hg : ∀ x, G d.g x = whileD (dstep T G) x) (hchk : ∀ (i : Nat) pt, d.pts[i]? = some pt → ∃ js, decPt (Env.ofS C.prog l m) keys N d T i = some js ∧ ∀ j td, (j, td) ∈ js → ∀ pj, d.pts[j]? = some pj → td = pj.todo)
    (hp0 : d.pts[0]? = some (lawPt (Env.ofS C.prog l m) d.f fn.params.toList)) (hsh : d.shs[0]? = some lawSh) (hok : lawOk (Env.ofS C.prog l m) d.f fn.params.toList L = true)
    (hplain : ∀ xs, LawArgs C.prog fn.params.toList xs → G d.g (.row (.int 0 :: xs)) = .row [.int 1, .bool true]) :
    ReturnsInHanded a C os d.f .any (s.pre6 enc C.prog fn conds apart) (s.post enc C.prog fn apart true false false) := by
  refine returnsInHanded_of_change own started noInit hfn witness ?_
  intro W base args ds gs before hval hW hcnd _
  have hW' := hW
  obtain ⟨p, q, hA, hV, rfl, hfz, hnd⟩ := hW
  rw [hvars] at hV
  have hgs : gs = [] ∧ q = [] := by
    cases gs with
    | nil => exact ⟨rfl, hV⟩
    | cons => simp [DataW.TrodVars] at hV
  obtain ⟨rfl, rfl⟩ := hgs
  have hlen := trodAll_len hA
  have hsp := hspec ds hlen
  have hkk : allKinds (Env.ofS C.prog l m) fn.params.toList = allKinds (Env.of C.prog) fn.params.toList := by
    generalize fn.params.toList = ts
    induction ts with
    | nil => rfl
    | cons t r ih => simp only [allKinds]; rw [ih]; rfl
  refine (law2_ok (E := Env.ofS C.prog l m) hE rfl hO hg hchk hp0 hsh hok hkk hplain hA (fun j t v ht hv => ⟨_, _, hval j t v (by simpa using ht) (by simpa using hv)⟩)).mono ?_
  rintro e W' ⟨rfl, hbelow⟩
  refine ⟨.bool true, rfl, ds, [], p ++ [], [], p, [], hW', ?_, ?_, ?_, hbelow.frame _, fun h => by cases h⟩
  · rw [List.append_nil, hsp, hres]
    exact ⟨[], [], shut_bool hb true, rfl, rfl⟩
  · rw [List.append_nil, hsp]
    exact trodAll_below hl hbelow hr hA (fun x hx => hW'.lt x (by simp [hx]))
  · rw [List.append_nil, hsp, hvars]; rfl
end Go.AE

/-! AeDec5 -/
namespace Go.AE
set_option linter.unusedVariables false

/-! ALL FUNCTIONS OF A PROGRAM TOGETHER -/
def jl (d : Dec) : List Nat → List (Nat × List AI)
  | [] => []
  | j :: r => (j, (d.pts.getD j default).todo) :: jl d r
def DecOK (E : Env) (keys : List Nat) (N : Nat) (d : Dec) (T : List (Tr Plf)) : Prop :=
  ∀ (i : Nat) pt, d.pts[i]? = some pt → ∃ l, decPt E keys N d T i = some (jl d l)
theorem jl_mem {d : Dec} : ∀ {l : List Nat} {j : Nat} {td : List AI}, (j, td) ∈ jl d l → ∀ pj, d.pts[j]? = some pj → td = pj.todo
  | [], j, td, h, pj, hp => by cases h
  | a :: r, j, td, h, pj, hp => by
    rcases List.mem_cons.1 h with q | q
    · cases q
      simp [List.getD_eq_getElem?_getD, hp]
    · exact jl_mem q pj hp
theorem DecOK.chk {E : Env} {keys : List Nat} {N : Nat} {d : Dec} {T : List (Tr Plf)} (h : DecOK E keys N d T) (i : Nat) (pt : Pt) (hp : d.pts[i]? = some pt) :
    ∃ js, decPt E keys N d T i = some js ∧ ∀ j td, (j, td) ∈ js → ∀ pj, d.pts[j]? = some pj → td = pj.todo := by
  obtain ⟨l, hl⟩ := h i pt hp
  exact ⟨_, hl, fun j td hm pj hj => jl_mem hm pj hj⟩

def Tr.appsLt (m : Nat) : Tr Plf → Bool
  | .leaf .stuck => true
  | .leaf (.done _ cs) => allFit 1000 m cs
  | .leaf (.next _ θ) => allFit 1000 m θ
  | .split e a b => e.fits 1000 m && a.appsLt m && b.appsLt m
def tabLt (m : Nat) : List (Tr Plf) → Bool
  | [] => true
  | t :: r => t.appsLt m && tabLt m r
def tabsLt : Nat → List (List (Tr Plf)) → Bool
  | _, [] => true
  | m, t :: r => tabLt m t && tabsLt (m + 1) r
/-- the named functions below n -/
def gAt [While] (Ts : List (List (Tr Plf))) : Nat → Nat → D → D
  | 0, _, _ => .row []
  | n + 1, k, x => if k = n then whileD (dstep (Ts.getD n []) (gAt Ts n)) x else gAt Ts n k x
def gAll [While] (Ts : List (List (Tr Plf))) : Nat → D → D := gAt Ts Ts.length
theorem gAt_up [While] (Ts : List (List (Tr Plf))) {k : Nat} (x : D) : ∀ {n : Nat}, k < n → gAt Ts n k x = gAt Ts (k + 1) k x
  | 0, h => by omega
  | n + 1, h => by
    by_cases c : k = n
    · subst c; rfl
    · have : gAt Ts (n + 1) k x = gAt Ts n k x := by show (if k = n then _ else _) = _; rw [if_neg c]
      rw [this]
      exact gAt_up Ts x (by omega)
theorem appsLt_get {m : Nat} {V W : Val} (hd : V.d = W.d) (hf : ∀ i, i < m → V.fn i = W.fn i) : ∀ {t : Tr Plf}, t.appsLt m = true → dlStep V (t.get V) = dlStep W (t.get W) := by
  have ha : V.Alike 1000 m W := ⟨fun i _ => by rw [hd], hf⟩
  intro t
  induction t with
  | leaf l =>
    intro h
    cases l with
    | stuck => rfl
    | done s cs => simp only [Tr.get, dlStep]; rw [allFit_ok ha h]
    | next j θ => simp only [Tr.get, dlStep]; rw [allFit_ok ha h]
  | split e a b iha ihb =>
    intro h
    simp only [Tr.appsLt, Bool.and_eq_true] at h
    have he : evalB V e = evalB W e := by unfold evalB; rw [SE.fits_ok ha e h.1.1]
    simp only [Tr.get, he]
    cases evalB W e with
    | true => exact iha h.1.2
    | false => exact ihb h.2
theorem dstep_lt {m : Nat} {G H : Nat → D → D} (hf : ∀ i, i < m → G i = H i) {T : List (Tr Plf)} (hT : tabLt m T = true) : dstep T G = dstep T H := by
  have key : ∀ (T : List (Tr Plf)), tabLt m T = true → ∀ (i : Nat) t, T[i]? = some t → t.appsLt m = true := by
    intro T
    induction T with
    | nil => intro _ i t h; simp at h
    | cons a r ih =>
      intro h i t hi
      simp only [tabLt, Bool.and_eq_true] at h
      cases i with
      | zero => simp only [List.getElem?_cons_zero, Option.some.injEq] at hi; subst hi; exact h.1
      | succ i => exact ih h.2 i t (by simpa using hi)
  funext x
  unfold dstep
  split
  · rename_i i xs
    split
    · rename_i t ht
      exact appsLt_get (m := m) (V := valD G xs) (W := valD H xs) rfl (fun i hi => hf i hi) (key T hT i t ht)
    · rfl
  · rfl
theorem tabsLt_get : ∀ {Ts : List (List (Tr Plf))} {m : Nat}, tabsLt m Ts = true → ∀ (k : Nat) T, Ts[k]? = some T → tabLt (m + k) T = true
  | [], m, _, k, T, h => by simp at h
  | a :: r, m, h, k, T, hk => by
    simp only [tabsLt, Bool.and_eq_true] at h
    cases k with
    | zero => simp only [List.getElem?_cons_zero, Option.some.injEq] at hk; subst hk; exact h.1
    | succ k =>
      have := tabsLt_get h.2 k T (by simpa using hk)
      rwa [show m + 1 + k = m + (k + 1) by omega] at this
theorem gAll_eq [While] {Ts : List (List (Tr Plf))} (h : tabsLt 0 Ts = true) {k : Nat} {T : List (Tr Plf)} (hk : Ts[k]? = some T) (x : D) : gAll Ts k x = whileD (dstep T (gAll Ts)) x := by
  have hlt : k < Ts.length := (List.getElem?_eq_some_iff.1 hk).1
  have hT := tabsLt_get h k T hk
  rw [Nat.zero_add] at hT
  have e1 : gAll Ts k x = whileD (dstep T (gAt Ts k)) x := by
    unfold gAll
    rw [gAt_up Ts x hlt]
    show (if k = k then _ else _) = _
    rw [if_pos rfl]
    simp [List.getD_eq_getElem?_getD, hk]
  rw [e1, dstep_lt (fun i hi => ?_) hT]
  funext y
  unfold gAll
  rw [gAt_up Ts y hi, gAt_up Ts y (show i < Ts.length by omega)]
def Dec.smL (d : Dec) (args : List AV) (pt : Pt) : Nat → List Sh → List Sm
  | _, [] => []
  | s, sh :: r => d.sm args pt s sh :: d.smL args pt (s + 1) r
theorem OrcOK.decL [While] {P : Program} {l : List Orc} {m : List Sm} {G : Nat → D → D} (hE : ∀ [U : Unk], U.K = (Env.of P).kinds → OK (Env.ofS P l m)) (hO : OrcOK (Env.ofS P l m) G) {d : Dec} {T : List (Tr Plf)} {keys : List Nat} {N : Nat} (hg : ∀ x, G d.g x = whileD (dstep T G) x)
    (hchk : DecOK (Env.ofS P l m) keys N d T) {nv : Nat} {args : List AV} {pre : List (Option ABlk)} {facts : List (SB × Bool)} (hp0 : d.pts[0]? = some (entryPt (Env.of P) d.f nv args pre facts)) (hent : (enterF (Env.of P) d.f args .normal).isSome = true) :
    OrcOK (Env.ofS P l (d.smL args (entryPt (Env.of P) d.f nv args pre facts) 0 d.shs ++ m)) G := by
  have key : ∀ (shs : List Sh) (s0 : Nat), (∀ (i : Nat) sh, shs[i]? = some sh → d.shs[s0 + i]? = some sh) → ∀ x ∈ d.smL args (entryPt (Env.of P) d.f nv args pre facts) s0 shs, x.Valid P G := by
    intro shs
    induction shs with
    | nil => intro s0 _ x hx; cases hx
    | cons sh r ih =>
      intro s0 hs x hx
      rcases List.mem_cons.1 hx with q | q
      · subst q
        exact Dec.sm_ok (E := Env.ofS P l m) hE hO hg hchk.chk hp0 hent (hs 0 sh rfl)
      · exact ih (s0 + 1) (fun i sh' hi => by have := hs (i + 1) sh' (by simpa using hi); rwa [show s0 + (i + 1) = s0 + 1 + i by omega] at this) x q
  refine ⟨hO.orc, fun x hx => ?_⟩
  rcases List.mem_append.1 hx with q | q
  · exact key d.shs 0 (fun i sh hi => by rw [Nat.zero_add]; exact hi) x q
  · exact hO.sms x q
end Go.AE
