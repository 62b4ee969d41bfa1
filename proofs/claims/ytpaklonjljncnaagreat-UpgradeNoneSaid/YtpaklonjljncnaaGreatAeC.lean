/- What is proved here: an evaluator of the model's steps that the kernel can run, and that whatever it answers is what the model does (part 3 of 5: AeOps12, AeOps13, AeOps14, AeOps15, AeOps16, AeOps17, AeOps18, AeOps19, AeOps20, AeStep1, AeStep2, AeStep3). Conditions: those that each theorem states; they hold of no one program. -/
import Derived.Test.YtpaklonjljncnaaGreatAeB
import Derived.Laws.BytesString
set_option linter.unusedSectionVars false
/-! AeOps12 -/
namespace Go.AE
variable [U : Unk]
set_option linter.unusedVariables false

theorem ER.length {ρ : Ren} : ∀ {l : List AEntry} {l' : List MapEntry}, ER ρ l l' → l.length = l'.length
  | [], [], _ => rfl
  | _ :: _, _ :: _, ⟨_, _, _, h⟩ => by simp [ER.length h]

section
variable {E : Env} (hE : OK E) {ρ : Ren} {h : AHeap} {w : World}
include hE

/-! keys of maps -/
theorem keyOK_ok (em : Bool) (k : Nat) : ∀ (d : Nat) (t : TypeId) (v : AV) (vv : Value), keyOK E d t v = true → VR ρ v vv → (Instr.checkKey em (d + k) t vv).run E.P w = .ok () w := by
  intro d
  induction d with
  | zero => intro t v vv h; simp [keyOK] at h
  | succ d ih =>
    intro t v vv h hv
    rw [show d + 1 + k = (d + k) + 1 from by omega, Instr.checkKey]
    simp only [keyOK] at h
    cases hd : E.desc t with
    | none => simp [hd] at h
    | some ds =>
      simp only [Sem.run_bind, hE.run_und hd, Result.andThen_ok]
      cases ds with
      | int q => simp
      | string => simp
      | bool => simp
      | struct fs =>
        simp only [hd] at h
        cases hv <;> simp only [Bool.false_eq_true] at h
        rename_i cs cs' h1 h2
        simp only [ne_eq, Sem.run_bind]
        rw [← Array.forIn_toList]
        generalize fs.toList = fl at h
        induction fl with
        | nil => simp
        | cons f fl ihf =>
          simp only [keyFields] at h
          cases hp : partA E f.type cs f.offset with
          | none => simp [hp] at h
          | some a =>
            simp only [hp] at h
            cases hk : keyOK E d f.type a with
            | false => simp [hk] at h
            | true =>
              simp only [hk] at h
              obtain ⟨av, q1, q2⟩ := hE.run_part hp ⟨h1, h2⟩ w
              have q3 := ih _ _ _ hk q2
              simp only [List.forIn_cons, Sem.run_bind]
              by_cases hn : f.name = "_"
              · simp only [hn, not_true_eq_false, if_false, Sem.run_pure, Result.andThen_ok]
                exact ihf h
              · simp only [hn, not_false_eq_true, if_true, Sem.run_bind, q1, q3, Result.andThen_ok, Sem.run_pure]
                exact ihf h
      | array n e =>
        simp only [hd] at h
        cases hv <;> simp only [Bool.false_eq_true] at h
        rename_i cs cs' h1 h2
        cases hh : E.has e with
        | false => simp [hh] at h
        | true =>
          simp only [hh] at h
          simp only [Std.Legacy.Range.forIn_eq_forIn_range', Std.Legacy.Range.size, Nat.sub_zero, Nat.add_one_sub_one, Nat.div_one]
          generalize hi : (0 : Nat) = i at h ⊢
          clear hi hd
          simp only [Sem.run_bind]
          induction n generalizing i with
          | zero => simp
          | succ n ihn =>
            simp only [keyElems] at h
            cases hp : partA E e cs (i * E.size e) with
            | none => simp [hp] at h
            | some a =>
              simp only [hp] at h
              cases hk : keyOK E d e a with
              | false => simp [hk] at h
              | true =>
                simp only [hk] at h
                obtain ⟨av, q1, q2⟩ := hE.run_part hp ⟨h1, h2⟩ w
                have q3 := ih _ _ _ hk q2
                simp only [List.range'_succ, List.forIn_cons, Sem.run_bind, hE.run_has hh, Result.andThen_ok, q1, q3, Sem.run_pure]
                exact ihn (i + 1) h
      | _ => simp [hd] at h

/-- what a look-up finds -/
def FR (ρ : Ren) : Option (Nat × AV) → Option (Nat × Value) → Prop
  | none, none => True
  | some (i, a), some (j, v) => i = j ∧ VR ρ a v
  | _, _ => False

theorem findAsking_ok {t : TypeId} {k : AV} {kv : Value} (hk : VR ρ k kv) : ∀ {es : List AEntry} {es' : List MapEntry} {i : Nat} {r : Option (Nat × AV)}, ER ρ es es' → findE E t k es i = some r →
    ∃ r', FR ρ r r' ∧ (Instr.findAsking t kv es' i).run E.P w = .ok r' w
  | [], [], i, r, _, h => by
    simp only [findE, Option.some.injEq] at h
    subst h
    exact ⟨none, trivial, by simp [Instr.findAsking]⟩
  | e :: es, e' :: es', i, r, ⟨h1, h2, h3, h4⟩, h => by
    simp only [findE] at h
    cases ha : aeq E 10000 t k e.key with
    | none => simp [ha] at h
    | some b =>
      have hask : (Op.equal t kv e'.key).run E.P w = .ok b w := aeq_ok (w := w) hE 10000 t k e.key b kv e'.key ha hk h1
      cases b with
      | true =>
        simp only [ha, Option.some.injEq] at h
        subst h
        exact ⟨some (i, e'.val), ⟨rfl, h2⟩, by simp [Instr.findAsking, hask]⟩
      | false =>
        simp only [ha] at h
        obtain ⟨r', q1, q2⟩ := findAsking_ok hk h4 h
        exact ⟨r', q1, by simp [Instr.findAsking, hask, q2]⟩

omit hE in
/-- the kinds of keys that are compared at once -/
theorem sameNow_ok {t : TypeId} {ds : TypeDesc} (hd : E.desc t = some ds) {x y : AV} {b : Bool} {xv yv : Value} {d : Nat} (ha : aeq E (d + 1) t x y = some b) (hx : VR ρ x xv) (hy : VR ρ y yv) :
    Instr.sameNow ds xv yv = some b ∨ ∀ u v, Instr.sameNow ds u v = none := by
  simp only [aeq, hd] at ha
  cases ds with
  | int q =>
    cases hx <;> first | (cases ha; done) | skip
    cases hy <;> first | (cases ha; done) | skip
    rename_i k n k' n'
    by_cases hk : k = k'
    · subst hk; simp only [decide_true, Option.some.injEq] at ha; subst ha; exact .inl (by simp [Instr.sameNow])
    · simp [hk] at ha
  | string =>
    cases hx <;> first | (cases ha; done) | skip
    cases hy <;> first | (cases ha; done) | skip
    rename_i s s'
    simp only [Option.some.injEq] at ha
    subst ha
    rw [strEq_spec]
    exact .inl (by simp only [Instr.sameNow]; rw [beq_toListBytes])
  | bool =>
    cases hx <;> first | (cases ha; done) | skip
    cases hy <;> first | (cases ha; done) | skip
    simp only [Option.some.injEq] at ha
    subst ha
    exact .inl (by simp [Instr.sameNow])
  | _ => exact .inr (fun u v => by cases u <;> cases v <;> rfl)

omit hE in
theorem findNow_ok {t : TypeId} {ds : TypeDesc} (hd : E.desc t = some ds) {k : AV} {kv : Value} (hk : VR ρ k kv) (hq : ¬ ∀ u v, Instr.sameNow ds u v = none) : ∀ {es : List AEntry} {es' : List MapEntry} {i : Nat} {r : Option (Nat × AV)}, ER ρ es es' → findE E t k es i = some r →
    ∃ r', FR ρ r r' ∧ Instr.findNow ds kv es' i = some r'
  | [], [], i, r, _, h => by
    simp only [findE, Option.some.injEq] at h
    subst h
    exact ⟨none, trivial, rfl⟩
  | e :: es, e' :: es', i, r, ⟨h1, h2, h3, h4⟩, h => by
    simp only [findE] at h
    cases ha : aeq E 10000 t k e.key with
    | none => simp [ha] at h
    | some b =>
      have hs : Instr.sameNow ds kv e'.key = some b := (sameNow_ok hd ha hk h1).resolve_right hq
      cases b with
      | true =>
        simp only [ha, Option.some.injEq] at h
        subst h
        exact ⟨some (i, e'.val), ⟨rfl, h2⟩, by simp [Instr.findNow, hs]⟩
      | false =>
        simp only [ha] at h
        obtain ⟨r', q1, q2⟩ := findNow_ok hd hk hq h4 h
        exact ⟨r', q1, by simp [Instr.findNow, hs, q2]⟩

theorem findKey_ok {t : TypeId} {ds : TypeDesc} (hd : E.desc t = some ds) {k : AV} {kv : Value} (hk : VR ρ k kv) {es : List AEntry} {es' : List MapEntry} {r : Option (Nat × AV)} (he : ER ρ es es') (h : findE E t k es 0 = some r) :
    ∃ r', FR ρ r r' ∧ (Instr.findKey t kv es').run E.P w = .ok r' w := by
  by_cases hq : ∀ u v, Instr.sameNow ds u v = none
  · cases es' with
    | nil =>
      cases es with
      | nil =>
        simp only [findE, Option.some.injEq] at h
        subst h
        exact ⟨none, trivial, by simp [Instr.findKey, hE.run_und hd, Instr.findNow]⟩
      | cons e es => cases he
    | cons e' es' =>
      obtain ⟨r', q1, q2⟩ := findAsking_ok (w := w) hE hk he h
      exact ⟨r', q1, by simp [Instr.findKey, hE.run_und hd, Instr.findNow, hq, q2]⟩
  · obtain ⟨r', q1, q2⟩ := findNow_ok hd hk hq he h
    exact ⟨r', q1, by simp [Instr.findKey, hE.run_und hd, q2]⟩

theorem lookupA_ok (hr : HR ρ h.blk.get w) {t : TypeId} {m k a : AV} {mv kv : Value} {ok : Bool} (hm : VR ρ m mv) (hk : VR ρ k kv) (ha : lookupA E t m k ok h = some a) :
    ∃ v, (Instr.lookup t mv kv ok).run E.P w = .ok v w ∧ VR ρ a v := by
  unfold lookupA at ha
  cases hd : E.desc t with
  | none => simp [hd] at ha
  | some d =>
    cases d with
    | map kt et =>
      simp only [hd] at ha
      cases hkk : keyOK E 20 kt k with
      | false => simp [hkk] at ha
      | true =>
        cases hz : E.zero et with
        | none => simp [hkk, hz] at ha
        | some z =>
          simp only [hkk, hz] at ha
          obtain ⟨zv, z1, z2⟩ := hE.run_zero ρ hz w
          have hzr := ofValue_VR ρ z2
          have hck : ∀ em, (Instr.checkKey em 10000 kt kv).run E.P w = .ok () w := fun em => keyOK_ok (w := w) hE em 9980 20 kt k kv hkk hk
          have hkd : ∃ ds, E.desc kt = some ds := by
            simp only [keyOK] at hkk
            cases hq : E.desc kt with
            | none => simp [hq] at hkk
            | some ds => exact ⟨ds, rfl⟩
          obtain ⟨ds, hkd⟩ := hkd
          have fin : ∀ (v : AV) (b : Bool) (vv : Value), VR ρ v vv → VR ρ (outA ok v b) (if ok then .tuple #[vv, .bool b] else vv) := by
            intro v b vv hv
            cases ok with
            | true =>
              have := VL.cons hv (VL.cons (VR.bool (ρ := ρ) b) (VL.nil ρ))
              exact .tuple _ [vv, .bool b] this.1 this.2
            | false => exact hv
          have emp : (Instr.findKey kt kv []).run E.P w = .ok none w := by
            obtain ⟨r', q1, q2⟩ := findKey_ok (w := w) hE hkd hk (es := []) (es' := []) (r := none) trivial rfl
            cases r' with
            | none => exact q2
            | some p => cases q1
          cases hm with
          | map0 =>
            simp only [Option.some.injEq] at ha
            subst ha
            refine ⟨_, ?_, fin z false zv hzr⟩
            simp [Instr.lookup, hE.run_und hd, hck, emp, z1]
          | map b base hb =>
            simp only [] at ha
            cases hg : h.blk.get b with
            | none => simp [hg] at ha
            | some y =>
              cases y with
              | map es clock =>
                simp only [hg] at ha
                obtain ⟨es', e1, e2⟩ := hr.blk b base _ hb hg
                have hget : (getObj base.cb).run E.P w = .ok (.map es'.toArray clock) w := by simp [getObj, Sem.run, e1]
                cases hf : findE E kt k es 0 with
                | none => simp [hf] at ha
                | some r =>
                  obtain ⟨r', q1, q2⟩ := findKey_ok (w := w) hE hkd hk e2 hf
                  cases r with
                  | none =>
                    simp only [hf, Option.some.injEq] at ha
                    subst ha
                    cases r' with
                    | some p => cases q1
                    | none =>
                      refine ⟨_, ?_, fin z false zv hzr⟩
                      simp [Instr.lookup, hE.run_und hd, hget, hck, q2, z1]
                  | some p =>
                    obtain ⟨i, v⟩ := p
                    simp only [hf, Option.some.injEq] at ha
                    subst ha
                    cases r' with
                    | none => cases q1
                    | some p' =>
                      obtain ⟨j, vv⟩ := p'
                      refine ⟨_, ?_, fin v true vv q1.2⟩
                      simp [Instr.lookup, hE.run_und hd, hget, hck, q2]
              | _ => simp [hg] at ha
          | _ => simp at ha
    | _ => simp [hd] at ha
end
end Go.AE

/-! AeOps13 -/
namespace Go.AE
variable [U : Unk]
set_option linter.unusedVariables false

theorem ER.get {ρ : Ren} : ∀ {l : List AEntry} {l' : List MapEntry} {i : Nat} {e : AEntry}, ER ρ l l' → l[i]? = some e → ∃ e', l'[i]? = some e' ∧ VR ρ e.key e'.key ∧ VR ρ e.val e'.val ∧ e'.born = e.born
  | [], [], i, e, _, h => by simp at h
  | a :: l, a' :: l', 0, e, ⟨h1, h2, h3, h4⟩, h => by simp at h; subst h; exact ⟨a', rfl, h1, h2, h3⟩
  | a :: l, a' :: l', i + 1, e, ⟨h1, h2, h3, h4⟩, h => by simpa using ER.get h4 (by simpa using h)
theorem ER.setVal {ρ : Ren} : ∀ {l : List AEntry} {l' : List MapEntry} {i : Nat} {k v : AV} {kv vv : Value}, ER ρ l l' → VR ρ k kv → VR ρ v vv → ER ρ (setVal l i k v) (l'.modify i fun e => { e with key := kv, val := vv })
  | [], [], i, k, v, kv, vv, _, _, _ => by simp [AE.setVal, ER]
  | a :: l, a' :: l', 0, k, v, kv, vv, ⟨h1, h2, h3, h4⟩, hk, hv => by
    simp only [AE.setVal, List.modify_zero_cons]
    exact ⟨hk, hv, h3, h4⟩
  | a :: l, a' :: l', i + 1, k, v, kv, vv, ⟨h1, h2, h3, h4⟩, hk, hv => by
    simp only [AE.setVal, List.modify_succ_cons]
    exact ⟨h1, h2, h3, ER.setVal h4 hk hv⟩
theorem ER.append {ρ : Ren} : ∀ {l : List AEntry} {l' : List MapEntry} {m : List AEntry} {m' : List MapEntry}, ER ρ l l' → ER ρ m m' → ER ρ (l ++ m) (l' ++ m')
  | [], [], _, _, _, h => h
  | _ :: _, _ :: _, _, _, ⟨h1, h2, h3, h4⟩, h => ⟨h1, h2, h3, ER.append h4 h⟩
theorem ER.eraseIdx {ρ : Ren} : ∀ {l : List AEntry} {l' : List MapEntry} (i : Nat), ER ρ l l' → ER ρ (l.eraseIdx i) (l'.eraseIdx i)
  | [], [], i, _ => by simp [ER]
  | _ :: _, _ :: _, 0, ⟨_, _, _, h⟩ => by simpa using h
  | _ :: _, _ :: _, i + 1, ⟨h1, h2, h3, h4⟩ => by
    simp only [List.eraseIdx_cons_succ]
    exact ⟨h1, h2, h3, ER.eraseIdx i h4⟩

section
variable {E : Env} (hE : OK E) {ρ : Ren} {h : AHeap} {w : World}

/-- an object that is there, put again -/
theorem run_setObj (P : Program) {r : Nat} {o o' : Obj} (ho : w.heap[r]? = some o) (hc : ∀ c e f, o ≠ .cells c e f) :
    (setObj r o').run P w = .ok () { w with heap := w.heap.setIfInBounds r o' } := by
  cases o <;> simp only [setObj, Sem.run, ho]
  exact absurd rfl (hc _ _ _)
theorem run_getObj (P : Program) {r : Nat} {o : Obj} (ho : w.heap[r]? = some o) (hc : ∀ c e f, o ≠ .cells c e f) :
    (getObj r).run P w = .ok o w := by
  cases o <;> simp only [getObj, Sem.run, ho]
  exact absurd rfl (hc _ _ _)

theorem HR.setObj (hr : HR ρ h.blk.get w) {r : Nat} {base : Base} (hb : ρ r = some base) (hl : h.blk.get r ≠ none) (x : ABlk) (o' : Obj) (hx : BR ρ x base (some o')) :
    HR ρ (h.put r x).blk.get { w with heap := w.heap.setIfInBounds base.cb o' } ∧ Ext ρ ρ h (h.put r x) w { w with heap := w.heap.setIfInBounds base.cb o' } := by
  have hlt := hr.lt r base hb
  refine hr.put hb hl x _ ?_ (by simp) (fun k hk => by simp [Array.getElem?_setIfInBounds_ne (Ne.symm hk)]) rfl rfl rfl
  have : ({ w with heap := w.heap.setIfInBounds base.cb o' } : World).heap[base.cb]? = some o' := by simp [hlt]
  rw [this]; exact hx

theorem sameS_eq : ∀ {a b : AV}, sameS a b = true → a = b := by
  intro a b h
  cases a <;> cases b <;> simp only [sameS] at h <;> first | (cases h; done) | skip
  · rename_i x y; cases x <;> cases y <;> first | rfl | cases h
  · rename_i k x k' y
    by_cases hk : k = k'
    · subst hk
      simp only [decide_true] at h
      rw [eq_of_beq h]
    · simp [hk] at h
  · rename_i l x l' y
    obtain ⟨h1, h2⟩ := andT h
    rw [beqT h1, beqT h2]
theorem sameSs_eq : ∀ {l m : List AV}, sameSs l m = true → l = m
  | [], [], _ => rfl
  | [], _ :: _, h => by simp [sameSs] at h
  | _ :: _, [], h => by simp [sameSs] at h
  | a :: l, b :: m, h => by
    simp only [sameSs] at h
    cases hs : sameS a b with
    | false => simp [hs] at h
    | true => simp only [hs] at h; rw [sameS_eq hs, sameSs_eq h]
theorem sameKeyA_eq {a b : AV} (h : sameKeyA a b = true) : a = b := by
  cases a <;> cases b <;> first | exact congrArg AV.agg (sameSs_eq h) | exact sameS_eq h

/-- which of two equal keys stays: one of the two -/
theorem keyThatStays_ok (P : Program) (ov nv : Value) :
    ∃ v w', (Instr.keyThatStays ov nv).run P w = .ok v w' ∧ (v = nv ∨ v = ov) ∧ w'.heap = w.heap ∧ w'.os = w.os ∧ w'.tape = w.tape ∧ w'.output = w.output := by
  unfold Instr.keyThatStays
  by_cases hs : Instr.sameBits 10000 ov nv = true
  · exact ⟨nv, w, by simp [hs], .inl rfl, rfl, rfl, rfl, rfl⟩
  · simp only [hs, Bool.false_eq_true, if_false, Sem.run_bind, run_choose, Question.forced, Sem.run_pure]
    exact ⟨_, _, rfl, by split <;> simp, rfl, rfl, rfl, rfl⟩

include hE

theorem updateA_ok (hr : HR ρ h.blk.get w) {t : TypeId} {m k v : AV} {mv kv vv : Value} {h' : AHeap} (hm : VR ρ m mv) (hk : VR ρ k kv) (hv : VR ρ v vv) (ha : updateA E t m k v h = some h') :
    ∃ w', (Instr.mapUpdate t mv kv vv).run E.P w = .ok () w' ∧ HR ρ h'.blk.get w' ∧ Ext ρ ρ h h' w w' := by
  unfold updateA at ha
  cases hd : E.desc t with
  | none => simp [hd] at ha
  | some d =>
    cases d with
    | map kt et =>
      simp only [hd] at ha
      cases hkk : keyOK E 20 kt k with
      | false => simp [hkk] at ha
      | true =>
        simp only [hkk] at ha
        have hck : ∀ em, (Instr.checkKey em 10000 kt kv).run E.P w = .ok () w := fun em => keyOK_ok (w := w) hE em 9980 20 kt k kv hkk hk
        have hkd : ∃ ds, E.desc kt = some ds := by
          simp only [keyOK] at hkk
          cases hq : E.desc kt with
          | none => simp [hq] at hkk
          | some ds => exact ⟨ds, rfl⟩
        obtain ⟨ds, hkd⟩ := hkd
        cases hm with
        | map b base hb =>
          simp only [] at ha
          cases hg : h.blk.get b with
          | none => simp [hg] at ha
          | some y =>
            cases y with
            | map es clock =>
              simp only [hg] at ha
              obtain ⟨es', e1, e2⟩ := hr.blk b base _ hb hg
              have hget := run_getObj (w := w) E.P e1 (by simp)
              cases hf : findE E kt k es 0 with
              | none => simp [hf] at ha
              | some r =>
                obtain ⟨r', q1, q2⟩ := findKey_ok (w := w) hE hkd hk e2 hf
                cases r with
                | none =>
                  simp only [hf, Option.some.injEq] at ha
                  subst ha
                  cases r' with
                  | some p => cases q1
                  | none =>
                    obtain ⟨p1, p2⟩ := hr.setObj hb (by rw [hg]; simp) (.map (es ++ [{ key := k, val := v, born := clock }]) (clock + 1)) (.map (es'.toArray.push { key := kv, val := vv, born := clock }) (clock + 1))
                      ⟨es' ++ [{ key := kv, val := vv, born := clock }], by simp, e2.append ⟨hk, hv, rfl, trivial⟩⟩
                    refine ⟨_, ?_, p1, p2⟩
                    simp [Instr.mapUpdate, hE.run_und hd, hget, hck, q2, run_setObj (w := w) E.P e1 (by simp)]
                | some p =>
                  obtain ⟨i, v0⟩ := p
                  simp only [hf] at ha
                  cases r' with
                  | none => cases q1
                  | some p' =>
                    obtain ⟨j, v0'⟩ := p'
                    obtain ⟨rfl, q3⟩ := q1
                    cases hi : es[i]? with
                    | none => simp [hi] at ha
                    | some e =>
                      simp only [hi] at ha
                      cases hs : sameKeyA k e.key with
                      | false => simp [hs] at ha
                      | true =>
                        simp only [hs, Option.some.injEq] at ha
                        subst ha
                        have hke := sameKeyA_eq hs
                        obtain ⟨e', g1, g2, g3, g4⟩ := e2.get hi
                        obtain ⟨nk, w1, s1, s2, s3, s4, s5, s6⟩ := keyThatStays_ok (w := w) E.P e'.key kv
                        have hnk : VR ρ k nk := by
                          rcases s2 with rfl | rfl
                          · exact hk
                          · rw [hke]; exact g2
                        have hr1 : HR ρ h.blk.get w1 := hr.same s3
                        obtain ⟨p1, p2⟩ := hr1.setObj hb (by rw [hg]; simp) (.map (setVal es i k v) clock) (.map (es'.toArray.modify i fun e => { e with key := nk, val := vv }) clock)
                          ⟨es'.modify i fun e => { e with key := nk, val := vv }, by simp [List.modify_toArray], e2.setVal hnk hv⟩
                        refine ⟨_, ?_, p1, p2.drawn s3 s4 s5 s6⟩
                        have e1' : w1.heap[base.cb]? = some (.map es'.toArray clock) := by rw [s3]; exact e1
                        simp only [Instr.mapUpdate, Sem.run_bind, hE.run_und hd, Result.andThen_ok, hget, hck, q2, List.getElem?_toArray, g1, Option.map_some, Option.getD_some, s1]
                        rw [run_setObj (w := w1) E.P e1' (by simp)]
            | _ => simp [hg] at ha
        | _ => simp at ha
    | _ => simp [hd] at ha

theorem deleteA_ok (hr : HR ρ h.blk.get w) {t ty : TypeId} {m k : AV} {mv kv : Value} {h' : AHeap} (hm : VR ρ m mv) (hk : VR ρ k kv) (ha : deleteA E t m k h = some h') (ats : Array TypeId) (hat : ats[0]? = some t) :
    ∃ w', (Builtin.delete_ ats ty #[mv, kv]).run E.P w = .ok (.tuple #[]) w' ∧ HR ρ h'.blk.get w' ∧ Ext ρ ρ h h' w w' := by
  unfold deleteA at ha
  cases hd : E.desc t with
  | none => simp [hd] at ha
  | some d =>
    cases d with
    | map kt et =>
      simp only [hd] at ha
      cases hkk : keyOK E 20 kt k with
      | false => simp [hkk] at ha
      | true =>
        simp only [hkk] at ha
        have hck : ∀ em, (Instr.checkKey em 10000 kt kv).run E.P w = .ok () w := fun em => keyOK_ok (w := w) hE em 9980 20 kt k kv hkk hk
        have hkd : ∃ ds, E.desc kt = some ds := by
          simp only [keyOK] at hkk
          cases hq : E.desc kt with
          | none => simp [hq] at hkk
          | some ds => exact ⟨ds, rfl⟩
        obtain ⟨ds, hkd⟩ := hkd
        cases hm with
        | map0 =>
          simp only [Option.some.injEq] at ha
          subst ha
          refine ⟨w, ?_, hr, Ext.refl ρ h w⟩
          simp [Builtin.delete_, hat, hE.run_und hd, hck]
        | map b base hb =>
          simp only [] at ha
          cases hg : h.blk.get b with
          | none => simp [hg] at ha
          | some y =>
            cases y with
            | map es clock =>
              simp only [hg] at ha
              obtain ⟨es', e1, e2⟩ := hr.blk b base _ hb hg
              have hget := run_getObj (w := w) E.P e1 (by simp)
              cases hf : findE E kt k es 0 with
              | none => simp [hf] at ha
              | some r =>
                obtain ⟨r', q1, q2⟩ := findKey_ok (w := w) hE hkd hk e2 hf
                cases r with
                | none =>
                  simp only [hf, Option.some.injEq] at ha
                  subst ha
                  cases r' with
                  | some p => cases q1
                  | none =>
                    obtain ⟨p1, p2⟩ := hr.setObj hb (by rw [hg]; simp) (.map es clock) (.map es'.toArray clock) ⟨es', rfl, e2⟩
                    refine ⟨_, ?_, p1, p2⟩
                    simp [Builtin.delete_, hat, hE.run_und hd, hget, hck, q2, run_setObj (w := w) E.P e1 (by simp)]
                | some p =>
                  obtain ⟨i, v0⟩ := p
                  simp only [hf, Option.some.injEq] at ha
                  subst ha
                  cases r' with
                  | none => cases q1
                  | some p' =>
                    obtain ⟨j, v0'⟩ := p'
                    obtain ⟨rfl, q3⟩ := q1
                    obtain ⟨p1, p2⟩ := hr.setObj hb (by rw [hg]; simp) (.map (es.eraseIdx i) clock) (.map (es'.toArray.eraseIdxIfInBounds i) clock) ⟨es'.eraseIdx i, by simp, e2.eraseIdx i⟩
                    refine ⟨_, ?_, p1, p2⟩
                    simp [Builtin.delete_, hat, hE.run_und hd, hget, hck, q2, run_setObj (w := w) E.P e1 (by simp)]
            | _ => simp [hg] at ha
        | _ => simp at ha
    | _ => simp [hd] at ha
end
end Go.AE

/-! AeOps14 -/
namespace Go.AE
variable [U : Unk]
set_option linter.unusedVariables false

theorem storeBorn_ok {ρ : Ren} {n : Nat} {v : AV} {vv : Value} (hv : VR ρ v vv) : ∀ {es es2 : List AEntry} {es' : List MapEntry}, ER ρ es es' → storeBorn es n v = some es2 →
    ∃ i, es'.findIdx? (fun e => (e.born : Int) == (n : Int)) = some i ∧ ER ρ es2 (es'.modify i fun e => { e with val := vv })
  | [], _, [], _, h => by simp [storeBorn] at h
  | e :: es, es2, e' :: es', ⟨h1, h2, h3, h4⟩, h => by
    simp only [storeBorn] at h
    cases hb : Nat.beq e.born n with
    | true =>
      simp only [hb, Option.some.injEq] at h
      subst h
      have := beqT hb
      exact ⟨0, by simp [List.findIdx?_cons, h3, this], by simp only [List.modify_zero_cons]; exact ⟨h1, hv, h3, h4⟩⟩
    | false =>
      simp only [hb] at h
      cases hs : storeBorn es n v with
      | none => simp [hs] at h
      | some r =>
        simp only [hs, Option.some.injEq] at h
        subst h
        obtain ⟨i, q1, q2⟩ := storeBorn_ok hv h4 hs
        have hne := beqF hb
        refine ⟨i + 1, ?_, by simp only [List.modify_succ_cons]; exact ⟨h1, h2, h3, q2⟩⟩
        have : ((e'.born : Int) == (n : Int)) = false := by rw [h3]; simp; omega
        simp [List.findIdx?_cons, this, q1]

theorem ER.setKey {ρ : Ren} {k : AV} {kv : Value} (hk : VR ρ k kv) : ∀ {l : List AEntry} {l' : List MapEntry} {i : Nat} {e : AEntry}, ER ρ l l' → l[i]? = some e → ER ρ (AE.setVal l i k e.val) (l'.modify i fun e => { e with key := kv })
  | [], [], i, e, _, h => by simp at h
  | a :: l, a' :: l', 0, e, ⟨h1, h2, h3, h4⟩, h => by
    simp at h; subst h
    simp only [AE.setVal, List.modify_zero_cons]
    exact ⟨hk, h2, h3, h4⟩
  | a :: l, a' :: l', i + 1, e, ⟨h1, h2, h3, h4⟩, h => by
    simp only [AE.setVal, List.modify_succ_cons]
    exact ⟨h1, h2, h3, ER.setKey hk h4 (by simpa using h)⟩

section
variable {E : Env} (hE : OK E) {ρ : Ren} {h : AHeap} {w : World}

theorem entryStoreA_ok (hr : HR ρ h.blk.get w) {t : TypeId} {m s v : AV} {mv sv vv : Value} {h' : AHeap} (hm : VR ρ m mv) (hs : VR ρ s sv) (hv : VR ρ v vv) (ha : entryStoreA m s v h = some h') :
    ∃ w', (Instr.entryStore t mv sv vv).run E.P w = .ok () w' ∧ HR ρ h'.blk.get w' ∧ Ext ρ ρ h h' w w' := by
  unfold entryStoreA at ha
  cases hn : natOf s with
  | none => cases m <;> simp [hn] at ha
  | some n =>
    obtain ⟨k, rfl⟩ := natOf_inv hs hn
    cases hm with
    | map b base hb =>
      simp only [hn] at ha
      cases hg : h.blk.get b with
      | none => simp [hg] at ha
      | some y =>
        cases y with
        | map es clock =>
          simp only [hg] at ha
          obtain ⟨es', e1, e2⟩ := hr.blk b base _ hb hg
          have hget := run_getObj (w := w) E.P e1 (by simp)
          cases hsb : storeBorn es n v with
          | none => simp [hsb] at ha
          | some es2 =>
            simp only [hsb, Option.some.injEq] at ha
            subst ha
            obtain ⟨i, q1, q2⟩ := storeBorn_ok hv e2 hsb
            obtain ⟨p1, p2⟩ := hr.setObj hb (by rw [hg]; simp) (.map es2 clock) (.map (es'.toArray.modify i fun e => { e with val := vv }) clock) ⟨_, by simp [List.modify_toArray], q2⟩
            refine ⟨_, ?_, p1, p2⟩
            simp [Instr.entryStore, hget, asInt, asIntOf, q1, run_setObj (w := w) E.P e1 (by simp)]
        | _ => simp [hg] at ha
    | _ => simp at ha

include hE
theorem entryA_ok (hr : HR ρ h.blk.get w) {t : TypeId} {m k a : AV} {mv kv : Value} {h' : AHeap} (hm : VR ρ m mv) (hk : VR ρ k kv) (ha : entryA E t m k h = some (a, h')) :
    Leaves1 E ρ h h' w (Instr.mapEntry t mv kv) a := by
  unfold entryA at ha
  cases hd : E.desc t with
  | none => simp [hd] at ha
  | some d =>
    cases d with
    | map kt et =>
      simp only [hd] at ha
      cases hkk : keyOK E 20 kt k with
      | false => simp [hkk] at ha
      | true =>
        cases hz : E.zero et with
        | none => simp [hkk, hz] at ha
        | some z =>
          simp only [hkk, hz] at ha
          obtain ⟨zv, z1, z2⟩ := hE.run_zero ρ hz w
          have hzr := ofValue_VR ρ z2
          have hck : ∀ em, (Instr.checkKey em 10000 kt kv).run E.P w = .ok () w := fun em => keyOK_ok (w := w) hE em 9980 20 kt k kv hkk hk
          have hkd : ∃ ds, E.desc kt = some ds := by
            simp only [keyOK] at hkk
            cases hq : E.desc kt with
            | none => simp [hq] at hkk
            | some ds => exact ⟨ds, rfl⟩
          obtain ⟨ds, hkd⟩ := hkd
          have pair : ∀ (v : AV) (vv : Value) (n : Nat), VR ρ v vv → VR ρ (.tuple [v, .int .i64 (n : Int)]) (.tuple #[vv, goInt n]) := by
            intro v vv n hv
            have := VL.cons hv (VL.cons (VR.int (ρ := ρ) .i64 (n : Int)) (VL.nil ρ))
            exact .tuple _ [vv, goInt n] this.1 this.2
          cases hm with
          | map b base hb =>
            simp only [] at ha
            cases hg : h.blk.get b with
            | none => simp [hg] at ha
            | some y =>
              cases y with
              | map es clock =>
                simp only [hg] at ha
                obtain ⟨es', e1, e2⟩ := hr.blk b base _ hb hg
                have hget := run_getObj (w := w) E.P e1 (by simp)
                cases hf : findE E kt k es 0 with
                | none => simp [hf] at ha
                | some r =>
                  obtain ⟨r', q1, q2⟩ := findKey_ok (w := w) hE hkd hk e2 hf
                  cases r with
                  | none =>
                    simp only [hf, Option.some.injEq, Prod.mk.injEq] at ha
                    obtain ⟨rfl, rfl⟩ := ha
                    cases r' with
                    | some p => cases q1
                    | none =>
                      obtain ⟨p1, p2⟩ := hr.setObj hb (by rw [hg]; simp) (.map (es ++ [{ key := k, val := z, born := clock }]) (clock + 1)) (.map (es'.toArray.push { key := kv, val := zv, born := clock }) (clock + 1))
                        ⟨es' ++ [{ key := kv, val := zv, born := clock }], by simp, e2.append ⟨hk, hzr, rfl, trivial⟩⟩
                      refine ⟨ρ, _, _, ?_, pair z zv clock hzr, p1, p2⟩
                      simp [Instr.mapEntry, hE.run_und hd, hget, hck, q2, z1, run_setObj (w := w) E.P e1 (by simp)]
                  | some p =>
                    obtain ⟨i, v0⟩ := p
                    simp only [hf] at ha
                    cases r' with
                    | none => cases q1
                    | some p' =>
                      obtain ⟨j, v0'⟩ := p'
                      obtain ⟨rfl, q3⟩ := q1
                      cases hi : es[i]? with
                      | none => simp [hi] at ha
                      | some e =>
                        simp only [hi] at ha
                        cases hs : sameKeyA k e.key with
                        | false => simp [hs] at ha
                        | true =>
                          simp only [hs, Option.some.injEq, Prod.mk.injEq] at ha
                          obtain ⟨rfl, rfl⟩ := ha
                          have hke := sameKeyA_eq hs
                          obtain ⟨e', g1, g2, g3, g4⟩ := e2.get hi
                          obtain ⟨nk, w1, s1, s2, s3, s4, s5, s6⟩ := keyThatStays_ok (w := w) E.P e'.key kv
                          have hnk : VR ρ k nk := by
                            rcases s2 with rfl | rfl
                            · exact hk
                            · rw [hke]; exact g2
                          have hr1 : HR ρ h.blk.get w1 := hr.same s3
                          obtain ⟨p1, p2⟩ := hr1.setObj hb (by rw [hg]; simp) (.map (setVal es i k e.val) clock) (.map (es'.toArray.modify i fun e => { e with key := nk }) clock)
                            ⟨es'.modify i fun e => { e with key := nk }, by simp [List.modify_toArray], ER.setKey hnk e2 hi⟩
                          refine ⟨ρ, _, _, ?_, pair v0 v0' e.born q3, p1, p2.drawn s3 s4 s5 s6⟩
                          have e1' : w1.heap[base.cb]? = some (.map es'.toArray clock) := by rw [s3]; exact e1
                          simp only [Instr.mapEntry, Sem.run_bind, hE.run_und hd, Result.andThen_ok, hget, hck, q2, List.getElem?_toArray, g1, Option.map_some, Option.getD_some, s1, g4]
                          rw [run_setObj (w := w1) E.P e1' (by simp)]
                          rfl
              | _ => simp [hg] at ha
          | _ => simp at ha
    | _ => simp [hd] at ha

omit hE in
theorem lenB_ok (hE : OK E) (hr : HR ρ h.blk.get w) {t ty : TypeId} {x a : AV} {xv : Value} (hx : VR ρ x xv) (ha : lenB E t x h = some a) (ats : Array TypeId) (hat : ats[0]? = some t) (args : Array Value) (harg : args[0]? = some xv) :
    ∃ v, (Builtin.len_ ats ty args).run E.P w = .ok v w ∧ VR ρ a v := by
  unfold lenB at ha
  cases hd : E.desc t with
  | none => simp [hd] at ha
  | some d =>
    cases d with
    | string =>
      cases hx <;> simp only [hd] at ha <;> first | (cases ha; done) | skip
      · simp only [Option.some.injEq] at ha
        subst ha
        rename_i s
        refine ⟨goInt s.size, by simp [Builtin.len_, hat, harg, hE.run_und hd], ?_⟩
        have : s.data.toList.length = s.size := by simp
        rw [this]; exact .int _ _
      · simp only [Option.some.injEq] at ha
        subst ha
        rename_i i
        refine ⟨goInt (U.V.S i).size, by simp [Builtin.len_, hat, harg, hE.run_und hd], ?_⟩
        have h1 : (U.V.S i).data.toList.length = (U.V.S i).size := by simp
        have h2 := mkI_ok ρ .i64 (.lenS i)
        simp only [evalI, h1] at h2
        exact h2
    | array n e =>
      simp only [hd, Option.some.injEq] at ha
      subst ha
      refine ⟨goInt n, ?_, .int _ _⟩
      cases hx <;> simp [Builtin.len_, hat, harg, hE.run_und hd]
    | slice e =>
      cases hx <;> simp only [hd] at ha <;> first | (cases ha; done) | skip
      all_goals
        simp only [Option.some.injEq] at ha
        subst ha
        first
          | exact ⟨_, by simp [Builtin.len_, hat, harg, hE.run_und hd]; rfl, .int _ _⟩
          | exact ⟨_, by simp [Builtin.len_, hat, harg, hE.run_und hd]; rfl, mkI_ok ρ .i64 (.lenL _)⟩
    | map k e =>
      cases hx <;> simp only [hd] at ha <;> first | (cases ha; done) | skip
      · simp only [Option.some.injEq] at ha
        subst ha
        exact ⟨goInt 0, by simp [Builtin.len_, hat, harg, hE.run_und hd], .int _ _⟩
      · rename_i b base hb
        cases hg : h.blk.get b with
        | none => simp [hg] at ha
        | some y =>
          cases y with
          | map es clock =>
            simp only [hg, Option.some.injEq] at ha
            subst ha
            obtain ⟨es', e1, e2⟩ := hr.blk b base _ hb hg
            have hget := run_getObj (w := w) E.P e1 (by simp)
            refine ⟨goInt es'.length, by simp [Builtin.len_, hat, harg, hE.run_und hd, hget], ?_⟩
            rw [e2.length]; exact .int _ _
          | _ => simp [hg] at ha
    | _ => cases hx <;> simp [hd] at ha
end
end Go.AE

/-! AeOps15 -/
namespace Go.AE
variable [U : Unk]
set_option linter.unusedVariables false

theorem maxFrom_ok {ρ : Ren} (P : Program) (w : World) (k : IntKind) : ∀ {l : List AV} {l' : List Value} {x : Int} {a : AV}, VL ρ l l' → maxFrom k x l = some a → ∃ v, (l'.foldlM Builtin.max2 (.int k x)).run P w = .ok v w ∧ VR ρ a v := by
  intro l
  induction l with
  | nil => intro l' x a hl h; rw [hl.nil_inv]; simp only [maxFrom, Option.some.injEq] at h; subst h; exact ⟨_, by simp, .int _ _⟩
  | cons y r ih =>
    intro l' x a hl h
    obtain ⟨v, r', rfl, hv, hr⟩ := hl.cons_inv
    cases hv <;> simp only [maxFrom] at h <;> first | (cases h; done) | skip
    obtain ⟨u, q1, q2⟩ := ih hr h
    exact ⟨u, by simp only [List.foldlM_cons, Builtin.max2, Sem.run_bind, Sem.run_pure, Result.andThen_ok]; exact q1, q2⟩
theorem minFrom_ok {ρ : Ren} (P : Program) (w : World) (k : IntKind) : ∀ {l : List AV} {l' : List Value} {x : Int} {a : AV}, VL ρ l l' → minFrom k x l = some a → ∃ v, (l'.foldlM Builtin.min2 (.int k x)).run P w = .ok v w ∧ VR ρ a v := by
  intro l
  induction l with
  | nil => intro l' x a hl h; rw [hl.nil_inv]; simp only [minFrom, Option.some.injEq] at h; subst h; exact ⟨_, by simp, .int _ _⟩
  | cons y r ih =>
    intro l' x a hl h
    obtain ⟨v, r', rfl, hv, hr⟩ := hl.cons_inv
    cases hv <;> simp only [minFrom] at h <;> first | (cases h; done) | skip
    obtain ⟨u, q1, q2⟩ := ih hr h
    exact ⟨u, by simp only [List.foldlM_cons, Builtin.min2, Sem.run_bind, Sem.run_pure, Result.andThen_ok]; exact q1, q2⟩

theorem packB_ok {ρ : Ren} : ∀ {l : List AV} {vs : List Value} {n : Nat}, packB l = some n → VL ρ l vs → ∃ ns : List Int, vs = ns.map (Value.int .u8) ∧ ns.length = l.length ∧ packL (ns.map fun n => UInt8.ofNat n.toNat) = n
  | [], vs, n, h, hv => by
    simp only [packB, Option.some.injEq] at h
    subst h
    rw [hv.nil_inv]
    exact ⟨[], rfl, rfl, rfl⟩
  | a :: l, vs, n, h, hv => by
    obtain ⟨v, r, rfl, hv1, hv2⟩ := hv.cons_inv
    cases hv1 <;> first | (cases h; done) | skip
    rename_i k m
    cases k <;> first | (cases h; done) | skip
    cases m with
    | negSucc m => cases h
    | ofNat m =>
      simp only [packB] at h
      cases hp : packB l with
      | none => simp [hp] at h
      | some q =>
        simp only [hp, Option.some.injEq] at h
        subst h
        obtain ⟨ns, h1, h2, h3⟩ := packB_ok hp hv2
        refine ⟨(m : Int) :: ns, by simp [h1], by simp [h2], ?_⟩
        simp only [List.map_cons, packL, h3, Int.toNat_natCast]
        simp

theorem foldl_push (ns : List Int) : ∀ (s : ByteArray), (ns.foldl (fun r n => r.push (UInt8.ofNat n.toNat)) s).data.toList = s.data.toList ++ ns.map fun n => UInt8.ofNat n.toNat := by
  induction ns with
  | nil => intro s; simp
  | cons n ns ih => intro s; simp only [List.foldl_cons, ih, List.map_cons]; simp [ByteArray.push]

theorem modify_push {α : Type} (a : Array α) (x : α) (f : α → α) : (a.push x).modify a.size f = a.push (f x) := by
  apply Array.ext_getElem?
  intro i
  simp only [Array.getElem?_modify, Array.getElem?_push]
  by_cases h : i = a.size
  · subst h; simp
  · rw [if_neg (fun e => h e.symm), if_neg h, if_neg h]

section
variable {E : Env} (hE : OK E) {ρ : Ren} {h : AHeap} {w : World}
include hE

theorem convA_ok (hr : HR ρ h.blk.get w) {s d : TypeId} {x a : AV} {xv : Value} {h' : AHeap} (hx : VR ρ x xv) (ha : convA E s d x h = some (a, h')) (hf : Free ρ h.nx h'.nx) :
    Leaves1 E ρ h h' w (convert s d xv) a := by
  unfold convA at ha
  cases hs : E.desc s with
  | none => rw [hs] at ha; cases ha
  | some sd =>
    cases hd : E.desc d with
    | none => rw [hs, hd] at ha; cases sd <;> cases ha
    | some dd =>
      rw [hs, hd] at ha
      have us := hE.run_und hs w
      have ud := hE.run_und hd w
      cases hx with
      | int k n =>
        cases dd <;> first | (cases ha; done) | (cases sd <;> (cases ha; done)) | skip
        simp only [Option.some.injEq, Prod.mk.injEq] at ha
        obtain ⟨rfl, rfl⟩ := ha
        exact leaves_pure hr ⟨_, by simp [convert, us, ud, Conv.intToInt], .int _ _⟩
      | si k e =>
        cases dd <;> first | (cases ha; done) | (cases sd <;> (cases ha; done)) | skip
        simp only [Option.some.injEq, Prod.mk.injEq] at ha
        obtain ⟨rfl, rfl⟩ := ha
        exact leaves_pure hr ⟨_, by simp [convert, us, ud, Conv.intToInt, evalI], mkI_ok ρ _ (.conv _ e)⟩
      | ss i =>
        cases dd <;> first | (cases ha; done) | (cases sd <;> (cases ha; done)) | skip
        simp only [Option.some.injEq, Prod.mk.injEq] at ha
        obtain ⟨rfl, rfl⟩ := ha
        refine leaves_pure hr ⟨.string (U.V.S i), ?_, .ss i⟩
        cases sd <;> simp [convert, us, ud]
      | str t =>
        cases dd <;> first | (cases ha; done) | (cases sd <;> (cases ha; done)) | skip
        · simp only [Option.some.injEq, Prod.mk.injEq] at ha
          obtain ⟨rfl, rfl⟩ := ha
          refine leaves_pure hr ⟨.string t, ?_, .str t⟩
          cases sd <;> simp [convert, us, ud]
        · rename_i e
          simp only [] at ha
          cases he : E.desc e with
          | none => rw [he] at ha; cases ha
          | some ed =>
            have ue := hE.run_und he w
            rw [he] at ha
            cases ed <;> first | (cases ha; done) | skip
            rename_i k
            cases k <;> first | (cases ha; done) | skip
            simp only [Option.some.injEq, Prod.mk.injEq] at ha
            obtain ⟨rfl, rfl⟩ := ha
            have hfree : ρ h.nx = none := hf h.nx (Nat.le_refl _) (by simp [AHeap.new])
            -- the row
            generalize hcap : grownCap w t.size 0 e = cap
            have hge : t.size ≤ cap := by rw [← hcap]; exact grownCap_ge w _ _ _
            generalize harr : (t.data.map (fun b => Value.int .u8 b.toNat) ++ Array.replicate (cap - t.size) (.int .u8 0)) = arr
            have hasz : arr.size = cap := by rw [← harr]; simp; omega
            have hr1 : HR ρ h.blk.get { w with drawn := w.drawn + 1 } := hr.same rfl
            obtain ⟨p1, p2⟩ := hr1.new hfree (.cells t.data.toList.length (.ofList (bytesOf t.data.toList.length (packL t.data.toList)))) (.cells arr e (arr.size, arr.size + 1)) arr.size (by
              refine ⟨arr, e, _, rfl, rfl, ?_, .inr (Nat.le_refl _), ?_⟩
              · show 0 + _ ≤ arr.size
                simp; omega
              · intro i a hi ha
                rw [T.get_ofList, bytesOf_pack] at ha
                obtain ⟨v, hv, hvr⟩ := (VL_bytes (ρ.upd h.nx ⟨w.heap.size, 0, arr.size⟩) t.data.toList).get ha
                refine ⟨v, ?_, hvr⟩
                rw [← harr]
                have hi' : i < t.size := by simpa using hi
                simp only [Nat.zero_add]
                rw [Array.getElem?_append_left (by simpa using hi')]
                simpa using hv) { w with drawn := w.drawn + 1, heap := w.heap.push (.cells arr e (arr.size, arr.size + 1)) } rfl rfl rfl rfl
            refine ⟨_, .slice (some ⟨w.heap.size, 0, none⟩) t.size cap, _, ?_, ?_, p1, p2.drawn rfl rfl rfl rfl⟩
            · have hch : (choose (.appendCap t.size 0 e)).run E.P w = .ok cap { w with drawn := w.drawn + 1 } := by rw [← hcap]; simp [Question.forced, grownCap]
              have hconv : (convert s d (.string t)).run E.P w = (Conv.stringToBytes e t).run E.P w := by
                cases sd <;> simp [convert, us, ud, ue]
              rw [hconv]
              simp only [Conv.stringToBytes, Sem.run_bind, hch, Result.andThen_ok, newRow, run_newObj, Sem.run_pure, harr]
              simp only [markStringish, Sem.run_bind, run_shape, Result.andThen_ok]
              have hsh : ({ w with drawn := w.drawn + 1, heap := w.heap.push (.cells arr e) } : World).shape? w.heap.size = some (e, arr.size) := by simp [World.shape?]
              rw [hsh]
              simp only [run_freeze, Result.andThen_ok]
              have hfz : ({ w with drawn := w.drawn + 1, heap := w.heap.push (.cells arr e) } : World).freeze ⟨w.heap.size, arr.size, none⟩ 1 = { w with drawn := w.drawn + 1, heap := w.heap.push (.cells arr e (arr.size, arr.size + 1)) } := by
                simp [World.freeze, modify_push]
              rw [hfz]
            · have hsz : t.size = t.data.toList.length := by simp
              rw [hsz] at hge ⊢
              exact VR.slice h.nx 0 _ 1 cap _ (Ren.upd_same _ _ _) hge (by simp [hasz])
      | slice0 =>
        cases dd <;> cases sd <;> first | (cases ha; done) | skip
        rename_i e
        simp only [] at ha
        cases he : E.desc e with
        | none => rw [he] at ha; cases ha
        | some ed =>
          have ue := hE.run_und he w
          rw [he] at ha
          cases ed <;> first | (cases ha; done) | skip
          rename_i k
          cases k <;> first | (cases ha; done) | skip
          simp only [Option.some.injEq, Prod.mk.injEq] at ha
          obtain ⟨rfl, rfl⟩ := ha
          exact leaves_pure hr ⟨.string .empty, by simp [convert, us, ud, ue, Conv.bytesToString], .str .empty⟩
      | slice b off len es cap base hb hcap hz =>
        cases dd <;> cases sd <;> first | (cases ha; done) | skip
        · rename_i e
          simp only [] at ha
          cases he : E.desc e with
          | none => rw [he] at ha; cases ha
          | some ed =>
            have ue := hE.run_und he w
            rw [he] at ha
            cases ed <;> first | (cases ha; done) | skip
            rename_i k
            cases k <;> first | (cases ha; done) | skip
            simp only [] at ha
            cases hl : loadN h b off len with
            | none => simp [hl] at ha
            | some l =>
              simp only [hl] at ha
              cases hp : packB l with
              | none => simp [hp] at ha
              | some n =>
                simp only [hp, Option.some.injEq, Prod.mk.injEq] at ha
                obtain ⟨rfl, rfl⟩ := ha
                unfold loadN at hl
                cases hg : h.blk.get b with
                | none => simp [hg] at hl
                | some y =>
                  cases y with
                  | cells sz c =>
                    simp only [hg] at hl
                    cases hq : Nat.ble (off + len) sz with
                    | false => simp [hq] at hl
                    | true =>
                      simp only [hq] at hl
                      have hlen := (T.range_spec c _ _ _ hl).1
                      obtain ⟨vs, q1, q2, q3⟩ := hr.loadCells E.P hb hg (bleT hq) hl
                      obtain ⟨ns, n1, n2, n3⟩ := packB_ok hp q1
                      rw [n1] at q2
                      have hrun := run_bytesToString (P := E.P) w ⟨base.cb, base.co + off, none⟩ len cap ns q2
                      refine leaves_pure hr ⟨_, by rw [run_convert_bytes_string w s d e _ _ _ (hE.und hs) (hE.und he) (hE.und hd)]; exact hrun, ?_⟩
                      have hv := VR.str (ρ := ρ) (ns.foldl (fun r n => r.push (UInt8.ofNat n.toNat)) ByteArray.empty)
                      have e0 : (ByteArray.empty.data.toList ++ ns.map fun n => UInt8.ofNat n.toNat) = ns.map fun n => UInt8.ofNat n.toNat := by simp
                      rw [foldl_push, e0, List.length_map, n3, n2, hlen] at hv
                      exact hv
                  | _ => simp [hg] at hl
        · rename_i e e'
          simp only [] at ha
          cases he : E.desc e with
          | none => rw [he] at ha; cases ha
          | some ed =>
            have ue := hE.run_und he w
            rw [he] at ha
            cases ed <;> first | (cases ha; done) | skip
            rename_i k
            cases k <;> first | (cases ha; done) | skip
            simp only [] at ha
            cases hsd : Nat.beq s d with
            | false => rw [hsd] at ha; cases ha
            | true =>
              cases len with
              | zero => rw [hsd] at ha; cases ha
              | succ len =>
                cases hg : h.blk.get b with
                | none => rw [hsd, hg] at ha; cases ha
                | some y =>
                  cases y <;> first | (rw [hsd, hg] at ha; cases ha; done) | skip
                  rename_i sz c
                  rw [hsd, hg] at ha
                  simp only [Option.some.injEq, Prod.mk.injEq] at ha
                  obtain ⟨rfl, rfl⟩ := ha
                  have hsd' := beqT hsd
                  subst hsd'
                  rw [hs] at hd
                  cases hd
                  obtain ⟨cur, e1, fz, r1, r2, r3, r4, r5⟩ := hr.blk b base _ hb hg
                  have hlt := hr.lt b base hb
                  have hsh : w.shape? base.cb = some (e1, cur.size) := by simp [World.shape?, r1]
                  -- the mark
                  obtain ⟨w', hw'⟩ : ∃ w', w' = w.freeze ⟨base.cb, cur.size, none⟩ 1 := ⟨_, rfl⟩
                  have hat : w'.heap[base.cb]? = some (.cells cur e1 (if fz.1 == fz.2 then (cur.size, cur.size + 1) else (min fz.1 cur.size, max fz.2 (cur.size + 1)))) := by
                    rw [hw']
                    unfold World.freeze
                    rw [if_neg (by omega)]
                    show (w.heap.modify base.cb _)[base.cb]? = _
                    rw [Array.getElem?_modify, if_pos rfl, r1]
                    rfl
                  have hnot : ∀ k, k ≠ base.cb → w'.heap[k]? = w.heap[k]? := by
                    intro k hk
                    rw [hw']
                    unfold World.freeze
                    rw [if_neg (by omega)]
                    show (w.heap.modify base.cb _)[k]? = _
                    rw [Array.getElem?_modify, if_neg (fun e => hk e.symm)]
                  have hsz : w'.heap.size = w.heap.size := by rw [hw']; simp [World.freeze]
                  have hstr : w'.os = w.os ∧ w'.tape = w.tape ∧ w'.output = w.output := by rw [hw']; simp [World.freeze]
                  have hbr : BR ρ (.cells sz c) base w'.heap[base.cb]? := by
                    refine ⟨cur, e1, _, hat, r2, r3, ?_, r5⟩
                    by_cases q : fz.1 = fz.2
                    · right; simp [q, r2]
                    · have := r4.resolve_left q
                      right
                      have q' : (fz.1 == fz.2) = false := by simpa using q
                      rw [q']
                      simp only [Bool.false_eq_true, if_false]
                      omega
                  have hr' : HR ρ h.blk.get w' := by
                    refine ⟨fun c d hc => hsz ▸ hr.lt c d hc, ?_, hr.apart⟩
                    intro c' d y hc hy
                    by_cases e : c' = b
                    · subst e
                      rw [hb] at hc; cases hc
                      rw [hg] at hy; cases hy
                      exact hbr
                    · rw [hnot _ (hr.apart c' b d base e hc hb (by rw [hy]; simp) (by rw [hg]; simp))]
                      exact hr.blk c' d y hc hy
                  refine ⟨ρ, .slice (some ⟨base.cb, base.co + off, none⟩) (len + 1) cap, w', ?_, .slice b off (len + 1) es cap base hb hcap hz, hr', ⟨Ren.le_refl ρ, Nat.le_refl _, fun _ _ e => .inl e, ⟨hstr.1, hstr.2.1, hstr.2.2, by omega⟩, ?_, ⟨[], rfl, fun _ _ _ => rfl⟩, fun _ e => .inl e⟩⟩
                  · simp only [convert, Sem.run_bind, us, Result.andThen_ok, ue, beq_self_eq_true, markStringish, run_shape, hsh, run_freeze, Sem.run_pure, ← hw']
                  · intro k hk hn
                    exact hnot k (fun e => hn b base hb (by rw [hg]; simp) e.symm)
      | sliceEnd b off es ad =>
        cases dd <;> cases sd <;> first | (cases ha; done) | skip
        · rename_i e
          simp only [] at ha
          cases he : E.desc e with
          | none => rw [he] at ha; cases ha
          | some ed =>
            have ue := hE.run_und he w
            rw [he] at ha
            cases ed <;> first | (cases ha; done) | skip
            rename_i k
            cases k <;> first | (cases ha; done) | skip
            simp only [] at ha
            cases hl : loadN h b off 0 with
            | none => simp [hl] at ha
            | some l =>
              simp only [hl] at ha
              have hl0 : l = [] := by
                unfold loadN at hl
                cases hg : h.blk.get b with
                | none => simp [hg] at hl
                | some y =>
                  cases y with
                  | cells sz c =>
                    simp only [hg] at hl
                    cases hq : Nat.ble (off + 0) sz with
                    | false => simp only [hq] at hl; cases hl
                    | true => simp only [hq, T.range, Option.some.injEq] at hl; exact hl.symm
                  | _ => simp [hg] at hl
              subst hl0
              simp only [packB, Option.some.injEq, Prod.mk.injEq] at ha
              obtain ⟨rfl, rfl⟩ := ha
              have hrun := run_bytesToString (P := E.P) w ad 0 0 [] (by simp [Go.loadCells, loadCellsFrom])
              exact leaves_pure hr ⟨_, by rw [run_convert_bytes_string w s d e _ _ _ (hE.und hs) (hE.und he) (hE.und hd)]; exact hrun, .str .empty⟩
        · rename_i e e'
          simp only [] at ha
          cases he : E.desc e with
          | none => rw [he] at ha; cases ha
          | some ed =>
            rw [he] at ha
            cases ed <;> first | (cases ha; done) | skip
            rename_i k
            cases k <;> first | (cases ha; done) | skip
            simp only [] at ha
            cases Nat.beq s d <;> cases h.blk.get b <;> simp at ha
      | _ => cases dd <;> first | (cases ha; done) | (cases sd <;> (cases ha; done))
end
end Go.AE

/-! AeOps16 -/
namespace Go.AE
variable [U : Unk]
set_option linter.unusedVariables false

theorem indexByteN_ok (c : UInt8) (s : ByteArray) : ∀ (n i : Nat), i + n = s.size → indexByteN c.toNat n (packL (s.data.toList.drop i)) i = (match (List.range' i n).find? (fun j => s[j]! == c) with | some j => (j : Int) | none => -1)
  | 0, i, h => by simp [indexByteN]
  | n + 1, i, h => by
    have hi : i < s.data.toList.length := by simp; omega
    have hd : s.data.toList.drop i = s.data.toList[i] :: s.data.toList.drop (i + 1) := List.drop_eq_getElem_cons hi
    have hg : s[i]! = s.data.toList[i] := by
      have hi' : i < s.size := by omega
      rw [getElem!_pos s i hi']; rfl
    obtain ⟨h1, h2⟩ := packL_mod s.data.toList[i] (s.data.toList.drop (i + 1))
    rw [hd]
    simp only [indexByteN, h1, h2, List.range'_succ, List.find?_cons, hg]
    by_cases e : s.data.toList[i] = c
    · rw [e]; simp
    · have e1 : Nat.beq s.data.toList[i].toNat c.toNat = false := beq_ne (fun q => e (UInt8.toNat_inj.1 q))
      have e2 : (s.data.toList[i] == c) = false := by simpa using e
      rw [e1, e2]
      exact indexByteN_ok c s n (i + 1) (by omega)

section
variable {E : Env} (hE : OK E) {ρ : Ren} {h : AHeap} {w : World}
include hE

theorem assertA_ok {x a : AV} {xv : Value} {xt t : TypeId} {ok : Bool} (hx : VR ρ x xv) (ha : assertA E x t ok = some a) :
    ∃ v, (Instr.typeAssert xv xt t ok).run E.P w = .ok v w ∧ VR ρ a v := by
  unfold assertA at ha
  cases hd : E.desc t with
  | none => rw [hd] at ha; cases ha
  | some d =>
    rw [hd] at ha
    have hu := hE.run_und hd w
    have pair : ∀ (v : AV) (vv : Value) (b : Bool), VR ρ v vv → VR ρ (.tuple [v, .bool b]) (.tuple #[vv, .bool b]) := by
      intro v vv b hv
      have := VL.cons hv (VL.cons (VR.bool (ρ := ρ) b) (VL.nil ρ))
      exact .tuple _ [vv, .bool b] this.1 this.2
    simp only [] at ha
    cases hif : isIfaceD d with
    | true => simp [hif] at ha
    | false =>
      simp only [hif] at ha
      cases hx <;> first | (cases ha; done) | skip
      · rename_i t' v vv hv
        simp only [assertB] at ha
        have run1 : (Instr.typeAssert (.iface t' vv) xt t ok).run E.P w = (if t' = t then (pure (if ok then .tuple #[vv, .bool true] else vv) : Sem Value) else
            (if ok then (do pure (.tuple #[← zeroValue t, .bool false])) else runtimePanic (.typeAssertion (some xt) (some t') t ""))).run E.P w := by
          cases d <;> first | (cases hif; done) | simp only [Instr.typeAssert, Sem.run_bind, hu, Result.andThen_ok]
        cases hb : Nat.beq t' t with
        | true =>
          have := beqT hb
          cases ok with
          | true =>
            simp only [hb, Option.some.injEq] at ha
            subst ha
            exact ⟨_, by rw [run1, if_pos this]; rfl, pair v vv true hv⟩
          | false =>
            simp only [hb, Option.some.injEq] at ha
            subst ha
            exact ⟨_, by rw [run1, if_pos this]; rfl, hv⟩
        | false =>
          have := beqF hb
          cases ok with
          | true =>
            cases hz : E.zero t with
            | none => simp [hb, hz] at ha
            | some z =>
              simp only [hb, hz, Option.some.injEq] at ha
              subst ha
              obtain ⟨zv, z1, z2⟩ := hE.run_zero ρ hz w
              exact ⟨_, by rw [run1, if_neg this]; simp [z1], pair z zv false (ofValue_VR ρ z2)⟩
          | false => simp [hb] at ha
      · simp only [assertB] at ha
        cases ok with
        | false => cases hz : E.zero t <;> simp at ha
        | true =>
          cases hz : E.zero t with
          | none => simp [hz] at ha
          | some z =>
            simp only [hz, Option.some.injEq] at ha
            subst ha
            obtain ⟨zv, z1, z2⟩ := hE.run_zero ρ hz w
            refine ⟨_, ?_, pair z zv false (ofValue_VR ρ z2)⟩
            cases d <;> first | (cases hif; done) | simp [Instr.typeAssert, hu, z1]

theorem rangeA_ok (hr : HR ρ h.blk.get w) {t : TypeId} {x a : AV} {xv : Value} {h' : AHeap} (hx : VR ρ x xv) (ha : rangeA E t x h = some (a, h')) (hf : Free ρ h.nx h'.nx) :
    Leaves1 E ρ h h' w (Instr.range t xv) a := by
  unfold rangeA at ha
  cases hd : E.desc t with
  | none => rw [hd] at ha; cases ha
  | some d =>
    rw [hd] at ha
    have hu := hE.run_und hd w
    cases d <;> first | (cases ha; done) | skip
    rename_i kt et
    · cases hx <;> first | (cases ha; done) | skip
      · simp only [Option.some.injEq, Prod.mk.injEq] at ha
        obtain ⟨rfl, rfl⟩ := ha
        have hfree : ρ h.nx = none := hf h.nx (Nat.le_refl _) (by simp [AHeap.new])
        obtain ⟨p1, p2⟩ := hr.new hfree (.mapIter none 0 [] 0) (.mapIter none 0 #[] 0) 0 ⟨rfl, rfl⟩ { w with heap := w.heap.push (.mapIter none 0 #[] 0) } rfl rfl rfl rfl
        refine ⟨_, .pointer (some ⟨w.heap.size, 0, none⟩), _, by simp [Instr.range, hu], ?_, p1, p2⟩
        exact .ptr h.nx 0 _ (Ren.upd_same _ _ _)
      · rename_i b base hb
        simp only [] at ha
        cases hg : h.blk.get b with
        | none => simp [hg] at ha
        | some y =>
          cases y with
          | map es clock =>
            simp only [hg, Option.some.injEq, Prod.mk.injEq] at ha
            obtain ⟨rfl, rfl⟩ := ha
            obtain ⟨es', e1, e2⟩ := hr.blk b base _ hb hg
            have hget := run_getObj (w := w) E.P e1 (by simp)
            have hfree : ρ h.nx = none := hf h.nx (Nat.le_refl _) (by simp [AHeap.new])
            obtain ⟨p1, p2⟩ := hr.new hfree (.mapIter (some b) clock [] clock) (.mapIter (some base.cb) clock #[] clock) 0 ⟨rfl, base, Ren.le_upd hfree _ _ _ hb, rfl⟩ { w with heap := w.heap.push (.mapIter (some base.cb) clock #[] clock) } rfl rfl rfl rfl
            refine ⟨_, .pointer (some ⟨w.heap.size, 0, none⟩), _, by simp [Instr.range, hu, hget], ?_, p1, p2⟩
            exact .ptr h.nx 0 _ (Ren.upd_same _ _ _)
          | _ => simp [hg] at ha
end
end Go.AE

/-! AeOps17 -/
namespace Go.AE
variable [U : Unk]
set_option linter.unusedVariables false

section
variable {E : Env} (hE : OK E) {ρ : Ren} {h : AHeap} {w : World}

theorem nextA_ok (hr : HR ρ h.blk.get w) {it a : AV} {iv : Value} {isS : Bool} {ty : TypeId} {h' : AHeap} (hi : VR ρ it iv) (ha : nextA it isS h = some (a, h')) :
    Leaves1 E ρ h h' w (Instr.next iv isS ty) a := by
  unfold nextA at ha
  have fin1 : VR ρ (.tuple [.bool false]) (.tuple #[.bool false]) := by
    have := VL.cons (VR.bool (ρ := ρ) false) (VL.nil ρ)
    exact .tuple _ [.bool false] this.1 this.2
  have trip : ∀ (x y : AV) (xv yv : Value), VR ρ x xv → VR ρ y yv → VR ρ (.tuple [.bool true, x, y]) (.tuple #[.bool true, xv, yv]) := by
    intro x y xv yv hx hy
    have := VL.cons (VR.bool (ρ := ρ) true) (VL.cons hx (VL.cons hy (VL.nil ρ)))
    exact .tuple _ [.bool true, xv, yv] this.1 this.2
  cases hi <;> first | (cases ha; done) | skip
  rename_i r off base hb
  cases off with
  | succ n => cases ha
  | zero =>
    simp only [] at ha
    cases hg : h.blk.get r with
    | none => rw [hg] at ha; cases ha
    | some y =>
      rw [hg] at ha
      cases y <;> first | (cases isS <;> (cases ha; done)) | skip
      rename_i m since seen last
      cases isS with
      | true => cases m <;> cases ha
      | false =>
        cases m with
        | none =>
          simp only [Option.some.injEq, Prod.mk.injEq] at ha
          obtain ⟨rfl, rfl⟩ := ha
          obtain ⟨hc0, e1⟩ := hr.blk r base _ hb hg
          have hget := run_getObj (w := w) E.P e1 (by simp)
          refine leaves_pure hr ⟨_, ?_, fin1⟩
          simp [Instr.next, hc0, hget]
        | some m =>
          obtain ⟨hc0, bm, hm, e1⟩ := hr.blk r base _ hb hg
          have hget := run_getObj (w := w) E.P e1 (by simp)
          simp only [] at ha
          cases hgm : h.blk.get m with
          | none => rw [hgm] at ha; cases ha
          | some ym =>
            rw [hgm] at ha
            cases ym <;> first | (cases ha; done) | skip
            rename_i es clock
            obtain ⟨es', m1, m2⟩ := hr.blk m bm _ hm hgm
            have hgetm := run_getObj (w := w) E.P m1 (by simp)
            cases es with
            | nil =>
              simp only [Option.some.injEq, Prod.mk.injEq] at ha
              obtain ⟨rfl, rfl⟩ := ha
              cases es' with
              | cons => cases m2
              | nil =>
                refine leaves_pure hr ⟨_, ?_, fin1⟩
                simp [Instr.next, hc0, hget, hgetm, Question.forced]
            | cons e es =>
              cases es with
              | cons => cases ha
              | nil =>
                cases es' with
                | nil => cases m2
                | cons e' es' =>
                  cases es' with
                  | cons => exact absurd m2.2.2.2 (by simp [ER])
                  | nil =>
                    obtain ⟨k1, k2, k3, _⟩ := m2
                    simp only [] at ha
                    cases hbb : (Nat.blt e.born since && Nat.blt e.born last) with
                    | false => rw [hbb] at ha; cases seen <;> cases ha
                    | true =>
                      rw [hbb] at ha
                      obtain ⟨b1, b2⟩ := andT hbb
                      have c1 := bltT b1
                      have c2 := bltT b2
                      cases seen with
                      | nil =>
                        simp only [Option.some.injEq, Prod.mk.injEq] at ha
                        obtain ⟨rfl, rfl⟩ := ha
                        obtain ⟨p1, p2⟩ := hr.setObj hb (by rw [hg]; simp) (.mapIter (some m) since [e.born] clock) (.mapIter (some bm.cb) since #[e.born] clock) ⟨hc0, bm, hm, rfl⟩
                        refine ⟨ρ, .tuple #[.bool true, e'.key, e'.val], _, ?_, trip _ _ _ _ k1 k2, p1, p2⟩
                        have q1 : e'.born < since := by omega
                        have q2 : ¬ since ≤ e'.born := by omega
                        rw [← k3]
                        simp [Instr.next, hc0, hget, hgetm, q1, q2, Question.forced, run_setObj (w := w) E.P e1 (by simp)]
                      | cons n seen =>
                        cases seen with
                        | cons => cases ha
                        | nil =>
                          simp only [] at ha
                          cases hn : Nat.beq n e.born with
                          | false => rw [hn] at ha; cases ha
                          | true =>
                            rw [hn] at ha
                            simp only [Option.some.injEq, Prod.mk.injEq] at ha
                            obtain ⟨rfl, rfl⟩ := ha
                            have hn' := beqT hn
                            refine leaves_pure hr ⟨_, ?_, fin1⟩
                            have q1 : ¬ last ≤ e'.born := by omega
                            have hn2 : n = e'.born := by omega
                            subst hn2
                            simp [Instr.next, hc0, hget, hgetm, q1, Question.forced]

theorem iterEntryA_ok (hr : HR ρ h.blk.get w) {it a : AV} {iv : Value} (hi : VR ρ it iv) (ha : iterEntryA it h = some a) :
    ∃ v, (Instr.entry iv).run E.P w = .ok v w ∧ VR ρ a v := by
  unfold iterEntryA at ha
  cases hi <;> first | (cases ha; done) | skip
  rename_i r off base hb
  cases off with
  | succ n => cases ha
  | zero =>
    simp only [] at ha
    cases hg : h.blk.get r with
    | none => rw [hg] at ha; cases ha
    | some y =>
      rw [hg] at ha
      cases y <;> first | (cases ha; done) | skip
      rename_i m since seen last
      cases m with
      | none => cases ha
      | some m =>
        cases seen with
        | nil => cases ha
        | cons n seen =>
          cases seen with
          | cons => cases ha
          | nil =>
            obtain ⟨hc0, bm, hm, e1⟩ := hr.blk r base _ hb hg
            have hget := run_getObj (w := w) E.P e1 (by simp)
            simp only [] at ha
            cases hgm : h.blk.get m with
            | none => rw [hgm] at ha; cases ha
            | some ym =>
              rw [hgm] at ha
              cases ym <;> first | (cases ha; done) | skip
              rename_i es clock
              obtain ⟨es', m1, m2⟩ := hr.blk m bm _ hm hgm
              have hgetm := run_getObj (w := w) E.P m1 (by simp)
              cases es with
              | nil => cases ha
              | cons e es =>
                cases es with
                | cons => cases ha
                | nil =>
                  cases es' with
                  | nil => cases m2
                  | cons e' es' =>
                    cases es' with
                    | cons => exact absurd m2.2.2.2 (by simp [ER])
                    | nil =>
                      obtain ⟨k1, k2, k3, _⟩ := m2
                      simp only [] at ha
                      cases hbb : (Nat.beq clock last && Nat.beq e.born n) with
                      | false => rw [hbb] at ha; cases ha
                      | true =>
                        rw [hbb] at ha
                        simp only [Option.some.injEq] at ha
                        subst ha
                        obtain ⟨b1, b2⟩ := andT hbb
                        have c1 := beqT b1
                        have c2 := beqT b2
                        have hv := VL.cons k1 (VL.cons k2 (VL.nil ρ))
                        refine ⟨.tuple #[e'.key, e'.val], ?_, .tuple _ [e'.key, e'.val] hv.1 hv.2⟩
                        simp [Instr.entry, hc0, hget, hgetm, c1, k3, c2]

theorem eval_ok {nt : Nat} {tmps : T AV} {tm : Array Value} (ht : TR ρ nt tmps tm) (o : Operand) : VR ρ (evalOp tmps o) (match o with
    | .tmp t => tm.getD t Go.undef
    | .const v => v
    | .global g => .pointer (some ⟨g, 0, none⟩)
    | .func f => .func (.func f) #[] #[]) := by
  cases o with
  | tmp t =>
    simp only [evalOp]
    cases hg : tmps.get t with
    | none => exact .top _
    | some a => exact ht.get t a hg
  | const v =>
    simp only [evalOp]
    cases hv : ofValue v with
    | none => exact .top v
    | some a => exact ofValue_VR ρ hv
  | global g => exact .top _
  | func f => exact .func _ _ [] [] [] [] rfl rfl (by simp) rfl (by simp)

/-- the operands' values -/
def EvR (ρ : Ren) (tmps : T AV) (ev : Operand → Value) : Prop := ∀ o, VR ρ (evalOp tmps o) (ev o)

theorem EvR.list {tmps : T AV} {ev : Operand → Value} (hev : EvR ρ tmps ev) : ∀ (l : List Operand), VL ρ (l.map (evalOp tmps)) (l.map ev)
  | [] => VL.nil ρ
  | o :: l => VL.cons (hev o) (EvR.list hev l)
theorem EvR.parts {tmps : T AV} {ev : Operand → Value} (hev : EvR ρ tmps ev) : ∀ (l : List (Nat × Operand)), PL ρ (l.map fun (i, x) => (i, evalOp tmps x)) (l.map fun (i, x) => (i, ev x))
  | [] => trivial
  | (i, x) :: l => ⟨rfl, hev x, EvR.parts hev l⟩

end
end Go.AE

/-! AeOps18 -/
namespace Go.AE
variable [U : Unk]
set_option linter.unusedVariables false

/-- what the true operation does beside the abstract one -/
def Does (E : Env) (ρ : Ren) (h : AHeap) (w : World) (s : Sem Next) : Res → Prop
  | .val v h' => Free ρ h.nx h'.nx → ∃ σ v' w', (s.run E.P w = .ok (.value v') w' ∨ (s.run E.P w = .ok .skip w' ∧ v' = Go.undef)) ∧ VR σ v v' ∧ HR σ h'.blk.get w' ∧ Ext ρ σ h h' w w'
  | .enter f args h' => h' = h ∧ ∃ args' : List Value, VL ρ args args' ∧ s.run E.P w = .ok (.enter f args'.toArray) w
  | .round l args h' => h' = h ∧ ∃ base, ∃ args' : List Value, ρ l = some base ∧ VL ρ args args' ∧ s.run E.P w = (Instr.yield base.cb args'.toArray).run E.P w
  | .defer d h' => h' = h ∧ ∃ d', DR ρ d d' ∧ s.run E.P w = .ok (.defer d') w
  | .recover h' => h' = h ∧ s.run E.P w = .ok .recover w
  | .panic v h' => h' = h ∧ ∃ v', VR ρ v v' ∧ s.run E.P w = .halt (.panic v') w
  | .bad _ => True

section
variable {E : Env} (hE : OK E) {ρ : Ren} {h : AHeap} {w : World}

theorem does_leaves {s : Sem Value} {why : String} {o : Option (AV × AHeap)} (ho : ∀ a h', o = some (a, h') → Free ρ h.nx h'.nx → Leaves1 E ρ h h' w s a) :
    Does E ρ h w (do pure (.value (← s))) (toResH why o) := by
  cases o with
  | none => trivial
  | some p =>
    obtain ⟨a, h'⟩ := p
    intro hf
    obtain ⟨σ, v, w', q1, q2, q3, q4⟩ := ho a h' rfl hf
    exact ⟨σ, v, w', .inl (by simp [q1]), q2, q3, q4⟩
theorem does_pure (hr : HR ρ h.blk.get w) {s : Sem Value} {why : String} {o : Option AV} (ho : ∀ a, o = some a → ∃ v, s.run E.P w = .ok v w ∧ VR ρ a v) :
    Does E ρ h w (do pure (.value (← s))) (toRes h why o) := by
  cases o with
  | none => trivial
  | some a =>
    intro hf
    obtain ⟨v, q1, q2⟩ := ho a rfl
    exact ⟨ρ, v, w, .inl (by simp [q1]), q2, hr, Ext.refl ρ h w⟩
theorem does_unit {s : Sem Unit} {why : String} {o : Option AHeap} (ho : ∀ h', o = some h' → ∃ w', s.run E.P w = .ok () w' ∧ HR ρ h'.blk.get w' ∧ Ext ρ ρ h h' w w') :
    Does E ρ h w (do s; pure .skip) (toResU why o) := by
  cases o with
  | none => trivial
  | some h' =>
    intro hf
    obtain ⟨w', q1, q2, q3⟩ := ho h' rfl
    exact ⟨ρ, Go.undef, w', .inr ⟨by simp [q1], rfl⟩, VR.undef ρ, q2, q3⟩

include hE
theorem externA_ok (hr : HR ρ h.blk.get w) {f : FuncId} {fn : Func} (hfn : E.fn.get f = some fn) (hb : fn.body = none) {args : List AV} {args' : List Value} (ha : VL ρ args args') :
    Does E ρ h w (callFunc f args'.toArray) (externA fn.name args h) := by
  have hfun := hE.fn f fn hfn
  have hnum := hE.num f fn hfn
  unfold externA
  split
  · rename_i hn
    obtain ⟨c1, c2⟩ := hE.clone f fn hfn hb hn
    split
    · rename_i t r
      obtain ⟨v, l, rfl, hv, hl⟩ := ha.cons_inv
      have := hl.nil_inv
      subst this
      cases hv with
      | iface t a v hv =>
        cases hv with
        | map b base hbs =>
          cases hg : h.blk.get r with
          | none => trivial
          | some y =>
            cases y with
            | map es clock =>
              intro hf
              obtain ⟨es', e1, e2⟩ := hr.blk r base _ hbs hg
              have hget := run_getObj (w := w) E.P e1 (by simp)
              have hfree : ρ h.nx = none := hf h.nx (Nat.le_refl _) (by simp [AHeap.new])
              obtain ⟨p1, p2⟩ := hr.new hfree (.map es clock) (.map es'.toArray clock) 0 ⟨es', rfl, e2.mono (Ren.le_upd hfree _)⟩ { w with heap := w.heap.push (.map es'.toArray clock) } rfl rfl rfl rfl
              refine ⟨_, .iface t (.map (some w.heap.size)), _, .inl ?_, ?_, p1, p2⟩
              · simp only [callFunc, Sem.run_bind, run_program, Result.andThen_ok, hfun, hnum, hb, Option.isNone_none, Bool.false_eq_true, if_false, if_true, run_mark, c1, c2]
                have hcl : Extern.MapsClone.clone #[.iface t (.map (some base.cb))] = (do
                    let .map entries clock ← getObj base.cb | stuck "maps.clone: a map expected"
                    pure (.iface t (.map (some (← newObj (.map entries clock)))))) := rfl
                show ((Extern.MapsClone.clone #[.iface t (.map (some base.cb))]).run E.P w).andThen _ = _
                rw [hcl]
                simp only [Sem.run_bind, hget, Result.andThen_ok, run_newObj, Sem.run_pure]
              · exact .iface t _ _ (.map h.nx _ (Ren.upd_same _ _ _))
            | _ => trivial
    · trivial
  · rename_i hn
    obtain ⟨c1, c2⟩ := hE.ixb f fn hfn hb hn
    split
    · rename_i l b c
      cases hc256 : Nat.blt c 256 with
      | false => trivial
      | true =>
      intro hf
      have hclt := bltT hc256
      obtain ⟨v, r, rfl, hv, hl⟩ := ha.cons_inv
      obtain ⟨v2, r2, rfl, hv2, hl2⟩ := hl.cons_inv
      have := hl2.nil_inv
      subst this
      cases hv
      cases hv2
      rename_i s
      refine ⟨ρ, .int .i64 (indexByteN c s.data.toList.length (packL s.data.toList) 0), w, .inl ?_, .int _ _, hr, Ext.refl ρ h w⟩
      simp only [callFunc, Sem.run_bind, run_program, Result.andThen_ok, hfun, hnum, hb, Option.isNone_none, Bool.false_eq_true, if_false, if_true, run_mark, c1, c2]
      have hcl : Extern.BytealgIndexByte.indexByte #[.string s, .int .u8 (Int.ofNat c)] = (do
          let b ← Extern.Bytes.bytesOf (.string s)
          let c ← Extern.Bytes.asByte (.int .u8 (Int.ofNat c))
          match (List.range b.size).find? fun i => b[i]! == c with
          | some i => pure (goInt i)
          | none => pure (goInt (-1))) := rfl
      show ((Extern.BytealgIndexByte.indexByte #[.string s, .int .u8 (Int.ofNat c)]).run E.P w).andThen _ = _
      rw [hcl]
      have hix := indexByteN_ok (Nat.toUInt8 c) s s.size 0 (by omega)
      have hc : (Nat.toUInt8 c).toNat = c := by
        simp [Nat.toUInt8]; omega
      have hlen : s.data.toList.length = s.size := by simp
      rw [hc, List.drop_zero] at hix
      rw [hlen, hix, ← List.range_eq_range']
      simp only [Sem.run_bind, Extern.Bytes.bytesOf, Extern.Bytes.asByte, Sem.run_pure, Result.andThen_ok, Int.ofNat_eq_natCast, Int.toNat_natCast]
      cases (List.range s.size).find? (fun i => s[i]! == Nat.toUInt8 c) <;> simp [goInt]
    · trivial
  · trivial

theorem callA_ok (hr : HR ρ h.blk.get w) {f : FuncId} {args : List AV} {args' : List Value} (ha : VL ρ args args') : Does E ρ h w (callFunc f args'.toArray) (callA E f args h) := by
  unfold callA
  cases hf : E.fn.get f with
  | none => trivial
  | some fn =>
    cases hb : fn.body with
    | none => simp only []; rw [hb]; exact externA_ok hE hr hf hb ha
    | some c =>
      simp only []
      rw [hb]
      refine ⟨rfl, args', ha, ?_⟩
      simp only [callFunc, Sem.run_bind, run_program, Result.andThen_ok, hE.fn f fn hf, hE.num f fn hf, hb, Option.isNone_some, Bool.false_eq_true, if_false, Sem.run_pure]

theorem invokeA_ok (hr : HR ρ h.blk.get w) {fn fn' : Fn} {captured args : List AV} {captured' args' : List Value} (hfn : FnR ρ fn fn') (hc : VL ρ captured captured') (ha : VL ρ args args') :
    Does E ρ h w (invoke (.fn fn' captured'.toArray) args'.toArray) (invokeA E fn captured args h) := by
  cases fn with
  | func f =>
    simp only [FnR] at hfn
    subst hfn
    simp only [invokeA, invoke]
    have := callA_ok (w := w) hE hr (f := f) (ha.append hc)
    simpa using this
  | yield l =>
    obtain ⟨base, hb, rfl⟩ := hfn
    simp only [invokeA]
    exact ⟨rfl, base, args', hb, ha, rfl⟩
  | methodOf t name => trivial
  | via t path f ptr => trivial
  | method name =>
    simp only [FnR] at hfn
    subst hfn
    simp only [invokeA]
    cases args with
    | nil => trivial
    | cons a rest =>
      cases a <;> try trivial
      rename_i t v
      simp only []
      cases hi : E.ty.get t with
      | none => trivial
      | some inf =>
        simp only []
        cases hm : inf.methods.toList.find? (fun m => m.name == name) with
        | none => trivial
        | some m =>
          simp only []
          cases hp : m.path.isEmpty with
          | false => cases m.func <;> trivial
          | true =>
            cases hfu : m.func with
            | none => trivial
            | some p =>
              obtain ⟨f, ptr⟩ := p
              simp only []
              obtain ⟨vv, rest', rfl, hvv, hrest⟩ := ha.cons_inv
              cases hvv with
              | iface t a v' hv =>
                have hfuel : ∃ k, E.P.types.size + Made.depth = k + 1 := ⟨E.P.types.size + 99, rfl⟩
                obtain ⟨k, hk⟩ := hfuel
                have hpath : m.path.toList = [] := by simpa using hp
                have hm' : inf.methods.find? (fun m => m.name == name) = some m := by rw [← hm]; simp
                have core : (∀ d, E.desc t = some d → ((∃ e, d = .pointer e) → ptr = true) → ((¬ ∃ e, d = .pointer e) → ptr = false) → (method (k + 1) t v' name).run E.P w = .ok (f, v') w) := by
                  intro d hd h1 h2
                  have hu := hE.run_und hd w
                  simp only [method, Sem.run_bind, hE.run_info hi, Result.andThen_ok, hm', hpath, follow, Sem.run_pure, hfu, receiverAt, hu]
                  cases d <;> first
                    | (have := h1 ⟨_, rfl⟩; subst this; simp [Place.get])
                    | (have := h2 (by simp); subst this; simp [Place.get])
                have fin : (method (k + 1) t v' name).run E.P w = .ok (f, v') w → Does E ρ h w (invoke (.fn (.method name) captured'.toArray) (Value.iface t v' :: rest').toArray) (callA E f (v :: rest) h) := by
                  intro hq
                  have hcall := callA_ok (w := w) hE hr (f := f) (VL.cons hv hrest)
                  have hrun : ∀ r, (callFunc f (v' :: rest').toArray).run E.P w = r → (invoke (.fn (.method name) captured'.toArray) (Value.iface t v' :: rest').toArray).run E.P w = r := by
                    intro r hr'
                    rw [← hr']
                    simp only [invoke, List.getElem?_toArray, List.getElem?_cons_zero, callMethod, Sem.run_bind, run_program, Result.andThen_ok, hk, hq]
                    simp
                  unfold Does at hcall ⊢
                  cases hres : callA E f (v :: rest) h with
                  | val x h' =>
                    rw [hres] at hcall
                    intro hf
                    obtain ⟨σ, x', w', q1, q2⟩ := hcall hf
                    exact ⟨σ, x', w', q1.imp (hrun _) (fun q => ⟨hrun _ q.1, q.2⟩), q2⟩
                  | enter g as h' => rw [hres] at hcall; obtain ⟨q0, as', q1, q2⟩ := hcall; exact ⟨q0, as', q1, hrun _ q2⟩
                  | round l as h' => rw [hres] at hcall; obtain ⟨q0, b, as', q1, q2, q3⟩ := hcall; exact ⟨q0, b, as', q1, q2, hrun _ q3⟩
                  | defer d h' => rw [hres] at hcall; obtain ⟨q0, d', q1, q2⟩ := hcall; exact ⟨q0, d', q1, hrun _ q2⟩
                  | recover h' => rw [hres] at hcall; exact ⟨hcall.1, hrun _ hcall.2⟩
                  | panic x h' => rw [hres] at hcall; obtain ⟨q0, x', q1, q2⟩ := hcall; exact ⟨q0, x', q1, hrun _ q2⟩
                  | bad why => trivial
                cases hd : E.desc t with
                | none => trivial
                | some d =>
                  cases d <;> cases ptr <;> first
                    | trivial
                    | exact fin (core _ hd (by simp) (by simp))
end
end Go.AE

/-! AeOps19 -/
namespace Go.AE
variable [U : Unk]
set_option linter.unusedVariables false

section
variable {E : Env} (hE : OK E) {ρ : Ren} {h : AHeap} {w : World}

theorem does_unitV {s : Sem Value} {why : String} {o : Option AHeap} (ho : ∀ h', o = some h' → ∃ w', s.run E.P w = .ok (.tuple #[]) w' ∧ HR ρ h'.blk.get w' ∧ Ext ρ ρ h h' w w') :
    Does E ρ h w (do pure (.value (← s))) (toResU why o) := by
  cases o with
  | none => trivial
  | some h' =>
    intro hf
    obtain ⟨w', q1, q2, q3⟩ := ho h' rfl
    exact ⟨ρ, Go.undef, w', .inl (by simp [q1, Go.undef]), VR.undef ρ, q2, q3⟩

theorem maxL_ok {ats : Array TypeId} {ty : TypeId} {args : List AV} {args' : List Value} {a : AV} (ha : VL ρ args args') (hq : maxL args = some a) : ∃ v, (Builtin.max_ ats ty args'.toArray).run E.P w = .ok v w ∧ VR ρ a v := by
  cases args with
  | nil => cases hq
  | cons x r =>
    obtain ⟨v, r', rfl, hv, hl⟩ := ha.cons_inv
    cases hv <;> first | (cases hq; done) | skip
    obtain ⟨u, q1, q2⟩ := maxFrom_ok E.P w _ hl hq
    exact ⟨u, by simpa [Builtin.max_] using q1, q2⟩
theorem minL_ok {ats : Array TypeId} {ty : TypeId} {args : List AV} {args' : List Value} {a : AV} (ha : VL ρ args args') (hq : minL args = some a) : ∃ v, (Builtin.min_ ats ty args'.toArray).run E.P w = .ok v w ∧ VR ρ a v := by
  cases args with
  | nil => cases hq
  | cons x r =>
    obtain ⟨v, r', rfl, hv, hl⟩ := ha.cons_inv
    cases hv <;> first | (cases hq; done) | skip
    obtain ⟨u, q1, q2⟩ := minFrom_ok E.P w _ hl hq
    exact ⟨u, by simpa [Builtin.min_] using q1, q2⟩

include hE
theorem clearA_ok (hr : HR ρ h.blk.get w) {t ty : TypeId} {x : AV} {xv : Value} {h' : AHeap} (hx : VR ρ x xv) (ha : clearA E t x h = some h') (ats : Array TypeId) (hat : ats[0]? = some t) :
    ∃ w', (Builtin.clear_ ats ty #[xv]).run E.P w = .ok (.tuple #[]) w' ∧ HR ρ h'.blk.get w' ∧ Ext ρ ρ h h' w w' := by
  unfold clearA at ha
  cases hd : E.desc t with
  | none => rw [hd] at ha; cases ha
  | some d =>
    rw [hd] at ha
    have hu := hE.run_und hd w
    simp only [] at ha
    cases hx <;> first | (cases ha; done) | skip
    · simp only [Option.some.injEq] at ha
      subst ha
      exact ⟨w, by cases d <;> simp [Builtin.clear_, hat, hu], hr, Ext.refl ρ h w⟩
    · rename_i b off n es cap base hb hcap hz
      cases n with
      | zero =>
        simp only [Option.some.injEq] at ha
        subst ha
        exact ⟨w, by cases d <;> simp [Builtin.clear_, hat, hu], hr, Ext.refl ρ h w⟩
      | succ n =>
        cases d <;> first | (cases ha; done) | skip
        rename_i e
        simp only [] at ha
        cases hzz : E.zero e with
        | none => rw [hzz] at ha; cases ha
        | some z =>
          rw [hzz] at ha
          simp only [] at ha
          cases hzl : Nat.beq z.cells.length es with
          | false => rw [hzl] at ha; cases ha
          | true =>
            rw [hzl] at ha
            simp only [] at ha
            have hzl' := beqT hzl
            obtain ⟨zv, z1, z2⟩ := hE.run_zero ρ hzz w
            have zc := (ofValue_VR ρ z2).cells (ofValue_top z2)
            have hv := repeatL_VL zc (n + 1) zv.cells (.inr rfl)
            obtain ⟨w', q1, q2, q3⟩ := hr.storeN E.P hb hv ha
            refine ⟨w', ?_, q2, q3⟩
            have hzs : zv.cells.size = z.cells.length := by have := zc.1; simp at this; omega
            have e0 : (Builtin.zeroCells zv.cells (n + 1)).toList = ((Array.range ((n + 1) * z.cells.length)).map (zv.cells[· % zv.cells.size]!)).toList := by
              rw [Builtin.zeroCells, hzs]
            simp only [Builtin.clear_, hat, List.getElem?_toArray, List.getElem?_cons_zero, Sem.run_bind, hu, Result.andThen_ok, z1, e0, q1, Sem.run_pure]
    · rename_i b off es ad
      simp only [Option.some.injEq] at ha
      subst ha
      exact ⟨w, by cases d <;> simp [Builtin.clear_, hat, hu], hr, Ext.refl ρ h w⟩
    · rename_i b base hb
      simp only [] at ha
      cases hg : h.blk.get b with
      | none => rw [hg] at ha; cases ha
      | some y =>
        rw [hg] at ha
        cases y <;> first | (cases ha; done) | skip
        rename_i es clock
        simp only [Option.some.injEq] at ha
        subst ha
        obtain ⟨es', e1, e2⟩ := hr.blk b base _ hb hg
        have hget := run_getObj (w := w) E.P e1 (by simp)
        obtain ⟨p1, p2⟩ := hr.setObj hb (by rw [hg]; simp) (.map [] clock) (.map #[] clock) ⟨[], rfl, trivial⟩
        refine ⟨_, ?_, p1, p2⟩
        cases d <;> simp [Builtin.clear_, hat, hu, hget, run_setObj (w := w) E.P e1 (by simp)]

theorem builtinA_ok (hr : HR ρ h.blk.get w) {b : Builtin} {ats : Array TypeId} {ty : TypeId} {consts : Array Bool} {args : List AV} {args' : List Value} (ha : VL ρ args args') :
    Does E ρ h w (builtin b ats ty consts args'.toArray) (builtinA E b ats.toList args h) := by
  unfold builtinA
  split
  · rename_i t ts x xs hts
    obtain ⟨v, r, rfl, hv, hl⟩ := ha.cons_inv
    have hat : ats[0]? = some t := by rw [← Array.getElem?_toList, hts]; rfl
    exact does_pure hr fun a hq => lenB_ok hE hr hv hq ats hat _ (by simp)
  · rename_i t t' s x hts
    obtain ⟨v, r, rfl, hv, hl⟩ := ha.cons_inv
    obtain ⟨v2, r2, rfl, hv2, hl2⟩ := hl.cons_inv
    have := hl2.nil_inv
    subst this
    have hats : ats = #[t, t'] := by cases ats; simp_all
    subst hats
    exact does_leaves fun a h' hq hf => appendA_ok hE hr hv hv2 hq hf
  · rename_i t ts d x hts
    obtain ⟨v, r, rfl, hv, hl⟩ := ha.cons_inv
    obtain ⟨v2, r2, rfl, hv2, hl2⟩ := hl.cons_inv
    have := hl2.nil_inv
    subst this
    have hat : ats[0]? = some t := by rw [← Array.getElem?_toList, hts]; rfl
    exact does_leaves fun a h' hq hf => copyA_ok hE hr (t' := t) hv hv2 hq ats hat
  · rename_i t ts m k hts
    obtain ⟨v, r, rfl, hv, hl⟩ := ha.cons_inv
    obtain ⟨v2, r2, rfl, hv2, hl2⟩ := hl.cons_inv
    have := hl2.nil_inv
    subst this
    have hat : ats[0]? = some t := by rw [← Array.getElem?_toList, hts]; rfl
    exact does_unitV fun h' hq => deleteA_ok hE hr hv hv2 hq ats hat
  · exact does_pure hr fun a hq => maxL_ok ha hq
  · exact does_pure hr fun a hq => minL_ok ha hq
  · exact ⟨rfl, by simp [builtin]⟩
  · obtain ⟨v, r, rfl, hv, hl⟩ := ha.cons_inv
    have := hl.nil_inv
    subst this
    have hv' := hv
    cases hv
    exact ⟨rfl, _, hv', by simp [builtin, Instr.panic]⟩
  · rename_i t x hts
    obtain ⟨v, r, rfl, hv, hl⟩ := ha.cons_inv
    have := hl.nil_inv
    subst this
    have hat : ats[0]? = some t := by rw [← Array.getElem?_toList, hts]; rfl
    exact does_unitV fun h' hq => clearA_ok hE hr hv hq ats hat
  · trivial

theorem callOp_ok (hr : HR ρ h.blk.get w) {tmps : T AV} {ev : Operand → Value} (hev : EvR ρ tmps ev) (c : Call) (ty : TypeId) :
    Does E ρ h w (do let d ← resolve ev c ty; invoke d.target d.args) (callOp E tmps c h) := by
  have hargs := hev.list c.args.toList
  have hmap : (c.args.map ev) = (c.args.toList.map ev).toArray := by apply Array.ext'; simp
  unfold callOp
  cases hc : c.callee with
  | builtin b =>
    have e : ∃ cs, (do let d ← resolve ev c ty; invoke d.target d.args) = builtin b c.argTypes ty cs (c.args.toList.map ev).toArray :=
      ⟨_, by simp only [resolve, hc, pure_bind, invoke, hmap]; rfl⟩
    obtain ⟨cs, e⟩ := e
    rw [e]
    exact builtinA_ok (w := w) hE hr (b := b) (ats := c.argTypes) (ty := ty) (consts := cs) hargs
  | invoke r name =>
    have := invokeA_ok (w := w) hE hr (fn := .method name) (fn' := .method name) (captured := []) (captured' := []) rfl (VL.nil ρ) (VL.cons (hev r) hargs)
    have e : (do let d ← resolve ev c ty; invoke d.target d.args) = invoke (.fn (.method name) #[]) (ev r :: c.args.toList.map ev).toArray := by
      simp only [resolve, hc, pure_bind, hmap]
      congr 1
      simp
    rw [e]
    exact this
  | value f =>
    simp only []
    have hf := hev f
    cases hv : evalOp tmps f with
    | func fn first captured =>
      rw [hv] at hf
      cases hvf : ev f with
      | func fn' first' captured' =>
        rw [hvf] at hf
        cases hf with
        | func _ _ _ _ f' c' q1 q2 q3 q4 q5 =>
          have := invokeA_ok (w := w) hE hr q1 (captured := captured) (captured' := c') ⟨q4, q5⟩ (VL.append (l := first) (l' := f') ⟨q2, q3⟩ hargs)
          have e : (do let d ← resolve ev c ty; invoke d.target d.args) = invoke (.fn fn' c'.toArray) (f' ++ c.args.toList.map ev).toArray := by
            simp only [resolve, hc, hvf, Deferred.ofValue, pure_bind, hmap]
            congr 1
            simp
          rw [e]
          exact this
      | _ => rw [hvf] at hf; cases hf
    | _ => trivial

omit hE in
theorem deferOp_ok {tmps : T AV} {ev : Operand → Value} (hev : EvR ρ tmps ev) (c : Call) (ty : TypeId) :
    Does E ρ h w (do pure (.defer (← resolve ev c ty))) (deferOp tmps c h) := by
  have hargs := hev.list c.args.toList
  have hmap : (c.args.map ev) = (c.args.toList.map ev).toArray := by apply Array.ext'; simp
  unfold deferOp
  cases hc : c.callee with
  | value f =>
    simp only []
    have hf := hev f
    cases hv : evalOp tmps f with
    | func fn first captured =>
      rw [hv] at hf
      cases hvf : ev f with
      | func fn' first' captured' =>
        rw [hvf] at hf
        cases hf with
        | func _ _ _ _ f' c' q1 q2 q3 q4 q5 =>
          refine ⟨rfl, { target := .fn fn' c'.toArray, args := (f' ++ c.args.toList.map ev).toArray }, ?_, ?_⟩
          · exact ⟨fn', c', f' ++ c.args.toList.map ev, q1, ⟨q4, q5⟩, VL.append (l := first) (l' := f') ⟨q2, q3⟩ hargs, rfl⟩
          · simp [resolve, hc, hvf, Deferred.ofValue, hmap]
      | _ => rw [hvf] at hf; cases hf
    | _ => trivial
  | _ => trivial
end
end Go.AE

/-! AeOps20 -/
namespace Go.AE
variable [U : Unk]
set_option linter.unusedVariables false

section
variable {E : Env} (hE : OK E) {ρ : Ren} {h : AHeap} {w : World}
include hE

omit hE in
theorem does_val (hr : HR ρ h.blk.get w) {s : Sem Next} {a : AV} {v : Value} (hs : s.run E.P w = .ok (.value v) w) (hv : VR ρ a v) : Does E ρ h w s (.val a h) :=
  fun _ => ⟨ρ, v, w, .inl hs, hv, hr, Ext.refl ρ h w⟩

omit hE in
theorem optEval_ok {tmps : T AV} {ev : Operand → Value} (hev : EvR ρ tmps ev) (o : Option Operand) : (∀ a, optEval tmps o = some a → ∃ v, o.map ev = some v ∧ VR ρ a v) ∧ (optEval tmps o = none → o.map ev = none) := by
  cases o with
  | none => exact ⟨(fun a h => by cases h), fun _ => rfl⟩
  | some x => exact ⟨fun a h => by simp only [optEval, Option.some.injEq] at h; subst h; exact ⟨ev x, rfl, hev x⟩, (fun h => by cases h)⟩

theorem eqNil {t : TypeId} {ms : Array (String × TypeId)} (hd : E.desc t = some (.interface ms)) (d : Nat) : (Op.equalIn (d + 1) t .nilIface .nilIface).run E.P w = .ok true w := by
  simp [Op.equalIn, hE.run_und hd]

theorem aop_ok (hr : HR ρ h.blk.get w) {tmps : T AV} {ev : Operand → Value} (hev : EvR ρ tmps ev) (o : Oper) : Does E ρ h w (execOp ev o) (aop E tmps h o.op) := by
  unfold execOp aop
  cases hop : o.op with
  | move x => exact does_val hr (by simp) (hev x)
  | assign x => exact does_val hr (by simp) (hev x)
  | pick c a b =>
    simp only []
    have hc := hev c
    cases hv : evalOp tmps c with
    | bool t =>
      rw [hv] at hc
      cases hvc : ev c with
      | bool t' =>
        rw [hvc] at hc
        cases hc
        cases t with
        | true => exact does_val hr (by simp [asBool]) (hev a)
        | false => exact does_val hr (by simp [asBool]) (hev b)
      | _ => rw [hvc] at hc; cases hc
    | _ => trivial
  | alloc t =>
    simp only []
    cases hz : E.zero t with
    | none => trivial
    | some z =>
      intro hf
      obtain ⟨σ, v, w', q1, q2, q3, q4⟩ := alloc_ok hE hr (hf h.nx (Nat.le_refl _) (by simp [newCells, AHeap.new])) hz
      exact ⟨σ, v, w', .inl (by simp [q1]), q2, q3, q4⟩
  | box t x =>
    simp only []
    cases ht : (evalOp tmps x).isTop with
    | true => trivial
    | false =>
      intro hf
      obtain ⟨σ, v, w', q1, q2, q3, q4⟩ := box_ok (E := E) (t := t) hr (hf h.nx (Nat.le_refl _) (by simp [newCells, AHeap.new])) (hev x) (by rintro e; rw [e] at ht; cases ht)
      exact ⟨σ, v, w', .inl (by simp [q1]), q2, q3, q4⟩
  | build t ps =>
    have hp := hev.parts ps.toList
    have hmap : (ps.map fun (i, x) => (i, ev x)) = (ps.toList.map fun (i, x) => (i, ev x)).toArray := by apply Array.ext'; simp
    simp only [hmap]
    exact does_pure hr fun a hq => buildA_ok hE hp hq
  | buildSlice t len ps =>
    have hp := hev.parts ps.toList
    have hmap : (ps.map fun (i, x) => (i, ev x)) = (ps.toList.map fun (i, x) => (i, ev x)).toArray := by apply Array.ext'; simp
    simp only [hmap]
    exact does_leaves fun a h' hq hf => buildSliceA_ok hE hr hp hq hf
  | load t a => exact does_pure hr fun x hq => loadA_ok hE hr (hev a) hq
  | store t a x => exact does_unit fun h' hq => storeA_ok hE hr (hev a) (hev x) hq
  | nilCheck x =>
    simp only []
    have hx := hev x
    cases hv : evalOp tmps x <;> try trivial
    all_goals (rw [hv] at hx)
    · cases hvx : ev x <;> rw [hvx] at hx <;> cases hx
      exact does_val hr rfl (.ptr _ _ _ (by assumption))
    · rename_i fn f c
      cases fn <;> try trivial
      · cases hvx : ev x with
        | func fn' f' c' =>
          rw [hvx] at hx
          cases hx with
          | func _ _ _ _ f' c' q1 q2 q3 q4 q5 =>
            have q1' := q1
            simp only [FnR] at q1
            subst q1
            exact does_val hr rfl (.func _ _ _ _ _ _ q1' q2 q3 q4 q5)
        | _ => rw [hvx] at hx; cases hx
      · cases hvx : ev x with
        | func fn' f' c' =>
          rw [hvx] at hx
          cases hx with
          | func _ _ _ _ f' c' q1 q2 q3 q4 q5 =>
            have q1' := q1
            obtain ⟨base, hb, rfl⟩ := q1
            exact does_val hr rfl (.func _ _ _ _ _ _ q1' q2 q3 q4 q5)
        | _ => rw [hvx] at hx; cases hx
    · cases hvx : ev x <;> rw [hvx] at hx <;> cases hx
      exact does_val hr rfl (.iface _ _ _ (by assumption))
  | binOp op t x y ty =>
    refine does_pure hr fun a hq => ?_
    unfold binB at hq
    cases hsy : ((evalOp tmps x).isSym || (evalOp tmps y).isSym) with
    | true => rw [hsy] at hq; exact binS_ok (hev x) (hev y) hq
    | false =>
    rw [hsy] at hq
    simp only [] at hq
    cases hn : ((evalOp tmps x).isNil && (evalOp tmps y).isNil) with
    | false => rw [hn] at hq; exact binA_ok hE (hev x) (hev y) hq
    | true =>
      rw [hn] at hq
      simp only [] at hq
      obtain ⟨n1, n2⟩ := andT hn
      have e1 : evalOp tmps x = .nilIface := by
        generalize evalOp tmps x = a at n1
        cases a <;> first | rfl | cases n1
      have e2 : evalOp tmps y = .nilIface := by
        generalize evalOp tmps y = a at n2
        cases a <;> first | rfl | cases n2
      have v1 := hev x
      have v2 := hev y
      rw [e1] at v1
      rw [e2] at v2
      generalize hx : ev x = xv at v1
      generalize hy : ev y = yv at v2
      cases v1
      cases v2
      cases hc : (Region.isConst x || Region.isConst y) with
      | false => rw [hc] at hq; cases hq
      | true =>
        rw [hc] at hq
        cases hd : E.desc t with
        | none => rw [hd] at hq; cases hq
        | some d =>
          rw [hd] at hq
          cases d <;> first | (cases hq; done) | skip
          have hu := hE.run_und hd w
          have hg : (eqGuard op t x y .nilIface .nilIface).run E.P w = .ok () w := by
            unfold eqGuard
            rcases orF hc with q | q
            · cases x <;> simp only [Region.isConst, Bool.false_eq_true] at q
              cases op <;> simp
            · cases y <;> simp only [Region.isConst, Bool.false_eq_true] at q
              cases op <;> cases x <;> simp
          have heq : (Op.equal t .nilIface .nilIface).run E.P w = .ok true w := eqNil hE hd 9999
          have hb1 : binOp .eql t .nilIface .nilIface = (do pure (.bool (← Op.equal t .nilIface .nilIface))) := rfl
          have hb2 : binOp .neq t .nilIface .nilIface = (do pure (.bool (!(← Op.equal t .nilIface .nilIface)))) := rfl
          cases op <;> first | (cases hq; done) | skip
          · simp only [Option.some.injEq] at hq
            subst hq
            exact ⟨.bool true, by rw [hb1]; simp only [Sem.run_bind, hg, Result.andThen_ok, heq, Sem.run_pure], .bool _⟩
          · simp only [Option.some.injEq] at hq
            subst hq
            exact ⟨.bool false, by rw [hb2]; simp only [Sem.run_bind, hg, Result.andThen_ok, heq, Sem.run_pure, Bool.not_true], .bool _⟩
  | unOp op t x => exact does_pure hr fun a hq => unA_ok (hev x) hq
  | convert s d x => exact does_leaves fun a h' hq hf => convA_ok hE hr (hev x) hq hf
  | makeInterface t x =>
    simp only []
    cases hd : E.desc t with
    | none => trivial
    | some d =>
      cases d <;> first | trivial | exact does_val hr (by simp [Instr.makeInterface, hE.run_und hd]) (.iface t _ _ (hev x))
  | makeFunc fn first captured =>
    have h1 := hev.list first.toList
    have h2 := hev.list captured.toList
    have e1 : first.map ev = (first.toList.map ev).toArray := by apply Array.ext'; simp
    have e2 : captured.map ev = (captured.toList.map ev).toArray := by apply Array.ext'; simp
    cases fn with
    | yield l => trivial
    | _ => exact does_val hr (by simp only [Instr.makeFunc, Sem.run_bind, Sem.run_pure, Result.andThen_ok, e1, e2]) (.func _ _ _ _ _ _ rfl h1.1 h1.2 h2.1 h2.2)
  | makeMap t r =>
    have mk : ∀ {s : Sem Next}, s.run E.P w = .ok (.value (.map (some w.heap.size))) { w with heap := w.heap.push (.map #[] 0) } → Does E ρ h w s (.val (.map h.nx) (h.new (.map [] 0))) := by
      intro s hs hf
      have hfree : ρ h.nx = none := hf h.nx (Nat.le_refl _) (by simp [AHeap.new])
      obtain ⟨p1, p2⟩ := hr.new hfree (.map [] 0) (.map #[] 0) 0 ⟨[], rfl, trivial⟩ { w with heap := w.heap.push (.map #[] 0) } rfl rfl rfl rfl
      exact ⟨_, _, _, .inl hs, .map h.nx _ (Ren.upd_same _ _ _), p1, p2⟩
    cases r with
    | none => exact mk (by simp [Instr.makeMap])
    | some r =>
      simp only []
      have hx := hev r
      cases hd : E.desc t with
      | none => trivial
      | some d =>
        cases d <;> try trivial
        cases hv : evalOp tmps r <;> try trivial
        rw [hv] at hx
        cases hvx : ev r <;> rw [hvx] at hx <;> cases hx
        exact mk (by simp [Instr.makeMap, hvx, hE.run_und hd, asInt, asIntOf])
  | makeSlice t l c => exact does_leaves fun a h' hq hf => makeSliceA_ok hE hr (hev l) (hev c) hq hf
  | slice t x lo hi mx =>
    refine does_pure hr fun a hq => ?_
    obtain ⟨a1, a2⟩ := optEval_ok hev lo
    obtain ⟨b1, b2⟩ := optEval_ok hev hi
    obtain ⟨c1, c2⟩ := optEval_ok hev mx
    have hmh : optEval tmps mx ≠ none → optEval tmps hi ≠ none := by
      cases mx with
      | none => intro q; exact absurd rfl q
      | some m => cases hi with
        | none => cases hq
        | some i => intro _ q; cases q
    have hq' : sliceA E t (evalOp tmps x) (optEval tmps lo) (optEval tmps hi) (optEval tmps mx) h = some a := by
      cases mx <;> cases hi <;> first | exact hq | cases hq
    exact sliceA_ok hE hr (hev x) a1 a2 b1 b2 c1 c2 hmh hq'
  | fieldAddr t x f => exact does_pure hr fun a hq => fieldAddrA_ok hE (hev x) hq
  | field t x f => exact does_pure hr fun a hq => fieldA_ok hE (hev x) hq
  | indexAddr t x i => exact does_pure hr fun a hq => indexAddrA_ok hE (hev x) (hev i) hq
  | index t x i => exact does_pure hr fun a hq => indexA_ok hE (hev x) (hev i) hq
  | lookup t m k ok => exact does_pure hr fun a hq => lookupA_ok hE hr (hev m) (hev k) hq
  | mapUpdate t m k v => exact does_unit fun h' hq => updateA_ok hE hr (hev m) (hev k) (hev v) hq
  | insert t m k v => exact does_unit fun h' hq => updateA_ok hE hr (hev m) (hev k) (hev v) hq
  | mapEntry t m k => exact does_leaves fun a h' hq hf => entryA_ok hE hr (hev m) (hev k) hq
  | entryStore t m s v => exact does_unit fun h' hq => entryStoreA_ok hr (hev m) (hev s) (hev v) hq
  | range t x => exact does_leaves fun a h' hq hf => rangeA_ok hE hr (hev x) hq hf
  | next it isS => exact does_leaves fun a h' hq hf => nextA_ok hr (hev it) hq
  | entry it => exact does_pure hr fun a hq => iterEntryA_ok hr (hev it) hq
  | typeAssert x xt t ok => exact does_pure hr fun a hq => assertA_ok hE (hev x) hq
  | extract t i =>
    simp only []
    have hx := hev t
    cases hv : evalOp tmps t <;> try trivial
    rw [hv] at hx
    cases hvx : ev t <;> rw [hvx] at hx <;> cases hx
    rename_i l l' h1 h2
    refine does_pure hr fun a hq => ?_
    obtain ⟨v, q1, q2⟩ := VL.get (l := l) (l' := l') ⟨h1, h2⟩ hq
    exact ⟨v, by simp [Instr.extract, q1], q2⟩
  | call c => exact callOp_ok hE hr hev c o.type
  | defer c => exact deferOp_ok hev c o.type
  | panic x =>
    simp only []
    have hx := hev x
    cases hv : evalOp tmps x <;> try trivial
    rw [hv] at hx
    cases hvx : ev x <;> rw [hvx] at hx <;> cases hx
    exact ⟨rfl, _, .iface _ _ _ (by assumption), by simp [Instr.panic]⟩
  | _ => trivial
end
end Go.AE

/-! AeStep1 -/
namespace Go.AE
variable [U : Unk]
set_option linter.unusedVariables false

/-! steps of the true machine, at any frame -/
section
variable {P : Program} {fr : Frame} {k : List Item} {cs : List Frame} {w : World}

theorem st_seq {a b : Code} (hm : fr.mode = .run) (ht : fr.todo = .code (.seq a b) :: k) : step P (lone fr cs w) = .next (lone { fr with todo := .code a :: .code b :: k } cs w) :=
  step_lone_go (by cases fr; simp only at hm ht; subst hm; subst ht; simp [stepG, stepG.exec])
theorem st_skip (hm : fr.mode = .run) (ht : fr.todo = .code .skip :: k) : step P (lone fr cs w) = .next (lone { fr with todo := k } cs w) :=
  step_lone_go (by cases fr; simp only at hm ht; subst hm; subst ht; simp [stepG, stepG.exec])
theorem st_label {l : Nat} (hm : fr.mode = .run) (ht : fr.todo = .code (.label l) :: k) : step P (lone fr cs w) = .next (lone { fr with todo := k } cs w) :=
  step_lone_go (by cases fr; simp only at hm ht; subst hm; subst ht; simp [stepG, stepG.exec])
theorem st_inBlock {l : Nat} (hm : fr.mode = .run) (ht : fr.todo = .inBlock l :: k) : step P (lone fr cs w) = .next (lone { fr with todo := k } cs w) :=
  step_lone_go (by cases fr; simp only at hm ht; subst hm; subst ht; simp [stepG, stepG.exec])
theorem st_inScope {l : Code} (hm : fr.mode = .run) (ht : fr.todo = .inScope l :: k) : step P (lone fr cs w) = .next (lone { fr with todo := k } cs w) :=
  step_lone_go (by cases fr; simp only at hm ht; subst hm; subst ht; simp [stepG, stepG.exec])
theorem st_cond {c : Operand} {x y : Code} {b : Bool} (hm : fr.mode = .run) (ht : fr.todo = .code (.cond c x y) :: k) (hc : fr.eval c = .bool b) : step P (lone fr cs w) = .next (lone { fr with todo := .code (if b then x else y) :: k } cs w) :=
  step_lone_go (by cases fr; simp only at hm ht; subst hm; subst ht; simp [stepG, stepG.exec, hc])
theorem st_block {id : Nat} {c : Code} (hm : fr.mode = .run) (ht : fr.todo = .code (.block id c) :: k) : step P (lone fr cs w) = .next (lone { fr with todo := .code c :: .inBlock id :: k } cs w) :=
  step_lone_go (by cases fr; simp only at hm ht; subst hm; subst ht; simp [stepG, stepG.exec])
theorem st_loop {c : Code} (hm : fr.mode = .run) (ht : fr.todo = .code (.loop c) :: k) : step P (lone fr cs w) = .next (lone { fr with todo := .code c :: .inLoop c :: k } cs w) :=
  step_lone_go (by cases fr; simp only at hm ht; subst hm; subst ht; simp [stepG, stepG.exec])
theorem st_inLoop {c : Code} (hm : fr.mode = .run) (ht : fr.todo = .inLoop c :: k) : step P (lone fr cs w) = .next (lone { fr with todo := .code c :: .inLoop c :: k } cs w) :=
  step_lone_go (by cases fr; simp only at hm ht; subst hm; subst ht; simp [stepG, stepG.exec])
theorem st_scope {c : Code} (hm : fr.mode = .run) (ht : fr.todo = .code (.scope c) :: k) : step P (lone fr cs w) = .next (lone { fr with todo := .code c :: .inScope c :: k } cs w) :=
  step_lone_go (by cases fr; simp only at hm ht; subst hm; subst ht; simp [stepG, stepG.exec])
theorem st_region {id : Nat} {ops : Array Oper} (hm : fr.mode = .run) (ht : fr.todo = .code (.region id ops false) :: k) : step P (lone fr cs w) = .next (lone { fr with todo := .inRegion ops (List.range ops.size) :: k } cs w) :=
  step_lone_go (by cases fr; simp only at hm ht; subst hm; subst ht; simp [stepG, stepG.exec])
theorem st_draw {id : Nat} {ops : Array Oper} (hm : fr.mode = .run) (ht : fr.todo = .code (.region id ops true) :: k) :
    step P (lone fr cs w) = .next (lone { fr with todo := .inRegion ops (Region.schedule (P.follows .mixedOrders) ops (w.tape w.drawn (.order fr.fn id))) :: k } cs { w with drawn := w.drawn + 1 }) :=
  step_lone_go (by cases fr; simp only at hm ht; subst hm; subst ht; simp [stepG, stepG.exec, choose, Sem.run, Question.forced, Question.cut])
theorem st_regionEnd {ops : Array Oper} (hm : fr.mode = .run) (ht : fr.todo = .inRegion ops [] :: k) : step P (lone fr cs w) = .next (lone { fr with todo := k } cs w) :=
  step_lone_go (by cases fr; simp only at hm ht; subst hm; subst ht; simp [stepG, stepG.exec])
theorem st_exit {id : Nat} {k' : List Item} (hm : fr.mode = .run) (ht : fr.todo = .code (.exit id) :: k) (hk : exitTo id k = some k') : step P (lone fr cs w) = .next (lone { fr with todo := k' } cs w) :=
  step_lone_go (by cases fr; simp only at hm ht; subst hm; subst ht; simp [stepG, stepG.exec, hk])
theorem st_goto {l : Nat} {k' : List Item} (hm : fr.mode = .run) (ht : fr.todo = .code (.goto l) :: k) (hk : gotoIn l k = some k') : step P (lone fr cs w) = .next (lone { fr with todo := k' } cs w) :=
  step_lone_go (by cases fr; simp only at hm ht; subst hm; subst ht; simp [stepG, stepG.exec, hk])
/-- the end of a body outside a round -/
theorem st_end (hm : fr.mode = .run) (ht : fr.todo = [] ∨ ∃ k, fr.todo = .code .ret :: k) (hr : fr.roundOf = none) : step P (lone fr cs w) = .next (lone { fr with mode := .returning } cs w) := by
  rcases ht with ht | ⟨k, ht⟩ <;>
  exact step_lone_go (by cases fr; simp only at hm ht hr; subst hm; subst ht; subst hr; simp [stepG, stepG.exec])
/-- the end of a round, by a jump or without one -/
theorem st_endRound {l : Nat} {jump : Option Code} {c : Frame} {w' : World} {v : Value} (hm : fr.mode = .run) (hr : fr.roundOf = some l) (hk : fr.kind = .normal)
    (ht : (fr.todo = [] ∧ jump = none) ∨ (∃ k, fr.todo = .code .ret :: k ∧ jump = some .ret) ∨ (∃ id k, fr.todo = .code (.exit id) :: k ∧ exitTo id k = none ∧ jump = some (.exit id)) ∨ (∃ l k, fr.todo = .code (.goto l) :: k ∧ gotoIn l k = none ∧ jump = some (.goto l)))
    (hrun : (Instr.endRound l jump).run P w = .ok v w') : step P (lone fr (c :: cs) w) = .next (lone (c.finish v) cs w') := by
  rcases ht with ⟨ht, rfl⟩ | ⟨k, ht, rfl⟩ | ⟨id, k, ht, he, rfl⟩ | ⟨l', k, ht, he, rfl⟩ <;>
  exact step_lone_go (by cases fr; simp only at hm ht hr hk; subst hm; subst ht; subst hr; subst hk; simp [stepG, stepG.exec, Sem.runT_eq, doReturn, *])

/-- an operation that is not wanted -/
theorem st_skipOp {ops : Array Oper} {i : Nat} {rest : List Nat} {o : Oper} (hm : fr.mode = .run) (ht : fr.todo = .inRegion ops (i :: rest) :: k) (ho : ops[i]? = some o) (hw : Region.wanted o (yielded ops fr.tmps) = false) :
    step P (lone fr cs w) = .next (lone (fr.finish undef) cs w) :=
  step_lone_go (by cases fr; simp only at hm ht; subst hm; subst ht; simp at hw; simp [stepG, stepG.exec, ho, hw])
/-- an operation's run -/
theorem stepG_any {ops : Array Oper} {i : Nat} {rest : List Nat} {o : Oper} (hm : fr.mode = .run) (ht : fr.todo = .inRegion ops (i :: rest) :: k) (ho : ops[i]? = some o) (hw : Region.wanted o (yielded ops fr.tmps) = true)
    (hd : fr.roundOf = none ∨ ∀ c, o.op ≠ .defer c) :
    stepG P true { frame := fr, callers := cs, status := .running, dying := none } w = stepG.apply P true fr cs none (execOp fr.eval o) w := by
  cases fr
  simp only at hm ht hd
  subst hm; subst ht
  simp at hw
  rcases hd with hd | hd
  · subst hd
    simp [stepG, stepG.exec, stepG.oper, Frame.oper?, ho, hw]
  · simp only [stepG, stepG.exec, ho, Option.map_some, hw, Option.getD_some, if_true, stepG.oper, Frame.oper?]
    split
    · rename_i c heq; exact absurd heq (hd c)
    · rfl
theorem st_val {ops : Array Oper} {i : Nat} {rest : List Nat} {o : Oper} {w' : World} {v : Value} (hm : fr.mode = .run) (ht : fr.todo = .inRegion ops (i :: rest) :: k) (ho : ops[i]? = some o) (hw : Region.wanted o (yielded ops fr.tmps) = true)
    (hd : fr.roundOf = none ∨ ∀ c, o.op ≠ .defer c) (hrun : (execOp fr.eval o).run P w = .ok (.value v) w' ∨ ((execOp fr.eval o).run P w = .ok .skip w' ∧ v = undef)) :
    step P (lone fr cs w) = .next (lone (fr.finish v) cs w') := by
  refine step_lone_go ?_
  rw [stepG_any hm ht ho hw hd]
  rcases hrun with hrun | ⟨hrun, rfl⟩ <;> simp [stepG.apply, hrun]
theorem st_enter {ops : Array Oper} {i : Nat} {rest : List Nat} {o : Oper} {f : FuncId} {args : Array Value} {w' : World} (hm : fr.mode = .run) (ht : fr.todo = .inRegion ops (i :: rest) :: k) (ho : ops[i]? = some o) (hw : Region.wanted o (yielded ops fr.tmps) = true)
    (hd : fr.roundOf = none ∨ ∀ c, o.op ≠ .defer c) (hrun : (execOp fr.eval o).run P w = .ok (.enter f args) w') : step P (lone fr cs w) = .next (lone (Frame.enter P f args .normal) (fr :: cs) w') := by
  refine step_lone_go ?_
  rw [stepG_any hm ht ho hw hd]
  simp [stepG.apply, hrun, ht]
theorem st_round {ops : Array Oper} {i : Nat} {rest : List Nat} {o : Oper} {l : Nat} {f : FuncId} {tmps : Array Value} {assign body : Code} {w' : World} (hm : fr.mode = .run) (ht : fr.todo = .inRegion ops (i :: rest) :: k) (ho : ops[i]? = some o) (hw : Region.wanted o (yielded ops fr.tmps) = true)
    (hd : fr.roundOf = none ∨ ∀ c, o.op ≠ .defer c) (hrun : (execOp fr.eval o).run P w = .ok (.round l f tmps assign body) w') : step P (lone fr cs w) = .next (lone (Frame.round l f tmps assign body .normal) (fr :: cs) w') := by
  refine step_lone_go ?_
  rw [stepG_any hm ht ho hw hd]
  simp [stepG.apply, hrun]
theorem st_defer {ops : Array Oper} {i : Nat} {rest : List Nat} {o : Oper} {d : Deferred} {w' : World} (hm : fr.mode = .run) (ht : fr.todo = .inRegion ops (i :: rest) :: k) (ho : ops[i]? = some o) (hw : Region.wanted o (yielded ops fr.tmps) = true)
    (hd : fr.roundOf = none) (hrun : (execOp fr.eval o).run P w = .ok (.defer d) w') : step P (lone fr cs w) = .next (lone ({ fr with defers := d :: fr.defers }.finish undef) cs w') := by
  refine step_lone_go ?_
  rw [stepG_any hm ht ho hw (.inl hd)]
  simp [stepG.apply, hrun]
theorem st_panic {ops : Array Oper} {i : Nat} {rest : List Nat} {o : Oper} {v : Value} {w' : World} (hm : fr.mode = .run) (ht : fr.todo = .inRegion ops (i :: rest) :: k) (ho : ops[i]? = some o) (hw : Region.wanted o (yielded ops fr.tmps) = true)
    (hd : fr.roundOf = none ∨ ∀ c, o.op ≠ .defer c) (hrun : (execOp fr.eval o).run P w = .halt (.panic v) w') : step P (lone fr cs w) = .next (lone { fr with mode := .panicking [{ v, recovered := false }] } cs w') := by
  refine step_lone_go ?_
  rw [stepG_any hm ht ho hw hd]
  simp [stepG.apply, hrun, Frame.raise, hm]
/-- what recover() finds in the caller's mode -/
theorem st_recover {ops : Array Oper} {i : Nat} {rest : List Nat} {o : Oper} {w' : World} {c : Frame} (hm : fr.mode = .run) (ht : fr.todo = .inRegion ops (i :: rest) :: k) (ho : ops[i]? = some o) (hw : Region.wanted o (yielded ops fr.tmps) = true)
    (hr : fr.roundOf = none) (hk : fr.kind = .deferred) (hrun : (execOp fr.eval o).run P w = .ok .recover w') :
    (∀ v older, c.mode = .panicking ({ v, recovered := false, goexit := false } :: older) → step P (lone fr (c :: cs) w) = .next (lone (fr.finish v) ({ c with mode := .panicking ({ v, recovered := true } :: older) } :: cs) w')) ∧
    ((∀ v older, c.mode ≠ .panicking ({ v, recovered := false, goexit := false } :: older)) → step P (lone fr (c :: cs) w) = .next (lone (fr.finish .nilIface) (c :: cs) w')) := by
  refine ⟨fun v older hc => step_lone_go ?_, fun hc => step_lone_go ?_⟩
  · rw [stepG_any hm ht ho hw (.inl hr)]
    simp [stepG.apply, hrun, hr, tryRecover, hk, hc]
  · rw [stepG_any hm ht ho hw (.inl hr)]
    have : tryRecover fr (c :: cs) = none := by
      simp only [tryRecover, hk]
    simp [stepG.apply, hrun, hr, this]

theorem st_beginRound {l : Nat} {w' : World} (hm : fr.mode = .run) (ht : fr.todo = .beginRound :: k) (hr : fr.roundOf = some l) (hrun : (Instr.beginRound l).run P w = .ok () w') :
    step P (lone fr cs w) = .next (lone { fr with todo := k } cs w') := by
  refine step_lone_go ?_
  cases fr
  simp only at hm ht hr
  subst hm; subst ht; subst hr
  simp [stepG, stepG.exec, stepG.apply, hrun, Frame.finish]
theorem st_endLoop {l : Nat} {w' : World} {jump : Option Code} (hm : fr.mode = .run) (ht : fr.todo = .endRangeFunc l :: k) (hrun : (Instr.endLoop l).run P w = .ok jump w') :
    step P (lone fr cs w) = .next (lone { fr with todo := (jump.map Item.code).toList ++ k } cs w') := by
  refine step_lone_go ?_
  cases fr
  simp only at hm ht
  subst hm; subst ht
  simp [stepG, stepG.exec, Sem.runT_eq, hrun]
/-- a range over a function: the loop's object is laid, the function is called -/
theorem stepG_range {f : Operand} {params : Array Tmp} {assign body : Code} {l : Nat} {mark : List Deferred} {w' : World} (hm : fr.mode = .run) (ht : fr.todo = .code (.rangeFunc f params assign body) :: k)
    (hrun : (Instr.enterLoop fr.fn fr.tmps params assign body fr.roundOf).run P w = .ok (l, mark) w') :
    (stepG P true { frame := fr, callers := cs, status := .running, dying := none } w).bare =
    (stepG.apply P true { fr with todo := .inRangeFunc l :: k, defers := mark ++ fr.defers } cs none (do let d ← resolve fr.eval { callee := .value f, args := #[.const (.func (.yield l) #[] #[])], argTypes := #[] } 0; invoke d.target d.args) w').bare := by
  cases fr
  simp only at hm ht hrun
  subst hm; subst ht
  simp only [stepG, stepG.exec, Sem.runT_eq, hrun, GStep.bare_after]
  congr 2

/-! the end of a frame -/
theorem st_call {d : Deferred} {ds : List Deferred} {f : FuncId} {args : Array Value} {w' : World} (hm : fr.mode ≠ .run) (hd : fr.defers = d :: ds) (hc : ∀ b, d.target ≠ .collected b) (hn : d.target ≠ .nil)
    (hrun : (invoke d.target d.args).run P w = .ok (.enter f args) w') : step P (lone fr cs w) = .next (lone (Frame.enter P f args .deferred) ({ fr with defers := ds } :: cs) w') := by
  refine step_lone_go ?_
  cases fr with | mk fn tmps todo defers mode kind roundOf =>
  cases d with | mk target dargs =>
  simp only at hm hd hc hn hrun
  subst hd
  cases mode with
  | run => exact absurd rfl hm
  | returning => cases target <;> first | exact absurd rfl hn | exact absurd rfl (hc _) | simp [stepG, unwind, callDeferred, Sem.runT_eq, hrun]
  | panicking ch => cases target <;> first | exact absurd rfl hn | exact absurd rfl (hc _) | simp [stepG, unwind, callDeferred, Sem.runT_eq, hrun]
theorem st_taken {b : Nat} {args : Array Value} {ds l : List Deferred} {w' : World} (hm : fr.mode ≠ .run) (hd : fr.defers = { target := .collected b, args } :: ds)
    (hrun : (Instr.takeDeferred b).run P w = .ok l w') : step P (lone fr cs w) = .next (lone { fr with defers := l ++ ds } cs w') := by
  refine step_lone_go ?_
  cases fr with | mk fn tmps todo defers mode kind roundOf =>
  simp only at hm hd
  subst hd
  cases mode with
  | run => exact absurd rfl hm
  | returning => simp [stepG, unwind, Sem.runT_eq, hrun]
  | panicking ch => simp [stepG, unwind, Sem.runT_eq, hrun]
theorem st_return {c : Frame} {v : Value} {fn : Func} (hm : fr.mode = .returning) (hd : fr.defers = []) (hf : P.funcs[fr.fn]? = some fn) (hr : (results fn fr.tmps).run P w = .ok v w) :
    (fr.kind = .normal → step P (lone fr (c :: cs) w) = .next (lone (c.finish v) cs w)) ∧
    (fr.kind = .deferred → (∀ x older, c.mode = .panicking ({ v := x, recovered := true } :: older) → (∀ y ∈ older, y.goexit = false) → step P (lone fr (c :: cs) w) = .next (lone { c with mode := .returning } cs w)) ∧
      ((∀ x g older, c.mode ≠ .panicking ({ v := x, recovered := true, goexit := g } :: older)) → step P (lone fr (c :: cs) w) = .next (lone c cs w))) := by
  refine ⟨fun hk => step_leave_returned ⟨hm, hd, hk, fn, hf, hr⟩, fun hk => ⟨fun x older hc ho => step_lone_go ?_, fun hc => step_lone_go ?_⟩⟩
  · have : older.dropWhile (!·.goexit) = [] := by
      clear hc
      induction older with
      | nil => rfl
      | cons y r ih =>
        rw [List.dropWhile_cons_of_pos (by simp [ho y (by simp)])]
        exact ih fun z hz => ho z (by simp [hz])
    simp [stepG, unwind, doReturn, hm, hd, hk, hf, hr, hc, this]
  · simp only [stepG, unwind, doReturn, hm, hd, hk, hf, Sem.runT_eq, hr, GStep.bare_after, GStep.bare_go]
end
end Go.AE

/-! AeStep2 -/
namespace Go.AE
variable [U : Unk]
set_option linter.unusedVariables false

/-! the relation of frames -/
inductive IR (ρ : Ren) : AI → Item → Prop
  | code (c : Code) : IR ρ (.code c) (.code c)
  | inBlock (id : Nat) : IR ρ (.inBlock id) (.inBlock id)
  | inLoop (b : Code) : IR ρ (.inLoop b) (.inLoop b)
  | inScope (b : Code) : IR ρ (.inScope b) (.inScope b)
  | ops (all : Array Oper) (rest : List Oper) (idx : List Nat) (h : rest.map some = idx.map fun i => all[i]?) : IR ρ (.ops all rest) (.inRegion all idx)
  | inRange (l : Nat) (base : Base) (h : ρ l = some base) : IR ρ (.inRange l) (.inRangeFunc base.cb)
  | endRange (l : Nat) (base : Base) (h : ρ l = some base) : IR ρ (.endRange l) (.endRangeFunc base.cb)
  | beginRound : IR ρ .beginRound .beginRound
  | dead (all : Array Oper) (idx : List Nat) : IR ρ .dead (.inRegion all idx)

inductive IL (ρ : Ren) : List AI → List Item → Prop
  | nil : IL ρ [] []
  | cons {a : AI} {x : Item} {l : List AI} {l' : List Item} (h : IR ρ a x) (k : IL ρ l l') : IL ρ (a :: l) (x :: l')

def CL (ρ : Ren) : List (AV × Bool) → List PanicEntry → Prop
  | [], [] => True
  | a :: r, e :: r' => VR ρ a.1 e.v ∧ e.recovered = a.2 ∧ e.goexit = false ∧ CL ρ r r'
  | _, _ => False

inductive MR (ρ : Ren) : AMode → FrameMode → Prop
  | run : MR ρ .run .run
  | ret : MR ρ .ret .returning
  | panic (ch : List (AV × Bool)) (ch' : List PanicEntry) (h : CL ρ ch ch') : MR ρ (.panic ch) (.panicking ch')

def RR (ρ : Ren) : Option Nat → Option Nat → Prop
  | none, none => True
  | some l, some c => ∃ base, ρ l = some base ∧ c = base.cb
  | _, _ => False

structure FrR (ρ : Ren) (f : AF) (c : Frame) : Prop where
  fn : c.fn = f.fn
  tm : TR ρ f.nt f.tmps c.tmps
  todo : IL ρ f.todo c.todo
  defers : DL ρ f.defers c.defers
  mode : MR ρ f.mode c.mode
  kind : c.kind = f.kind
  round : RR ρ f.round c.roundOf

inductive FrL (ρ : Ren) : List AF → List Frame → Prop
  | nil : FrL ρ [] []
  | cons {f : AF} {c : Frame} {l : List AF} {l' : List Frame} (h : FrR ρ f c) (k : FrL ρ l l') : FrL ρ (f :: l) (c :: l')

theorem IR.mono {ρ σ : Ren} (hle : ρ.le σ) {a : AI} {x : Item} (h : IR ρ a x) : IR σ a x := by
  cases h with
  | code c => exact .code c
  | inBlock id => exact .inBlock id
  | inLoop b => exact .inLoop b
  | inScope b => exact .inScope b
  | ops all rest idx h => exact .ops all rest idx h
  | inRange l base h => exact .inRange l base (hle _ _ h)
  | endRange l base h => exact .endRange l base (hle _ _ h)
  | beginRound => exact .beginRound
  | dead all idx => exact .dead all idx
theorem IL.mono {ρ σ : Ren} (hle : ρ.le σ) {a : List AI} {x : List Item} (h : IL ρ a x) : IL σ a x := by
  induction h with
  | nil => exact .nil
  | cons h _ ih => exact .cons (h.mono hle) ih
theorem CL.mono {ρ σ : Ren} (hle : ρ.le σ) : ∀ {l : List (AV × Bool)} {l' : List PanicEntry}, CL ρ l l' → CL σ l l'
  | [], [], _ => trivial
  | _ :: _, _ :: _, ⟨h1, h2, h3, h4⟩ => ⟨h1.mono hle, h2, h3, h4.mono hle⟩
theorem MR.mono {ρ σ : Ren} (hle : ρ.le σ) {a : AMode} {x : FrameMode} (h : MR ρ a x) : MR σ a x := by
  cases h with
  | run => exact .run
  | ret => exact .ret
  | panic ch ch' h => exact .panic ch ch' (h.mono hle)
theorem RR.mono {ρ σ : Ren} (hle : ρ.le σ) {a x : Option Nat} (h : RR ρ a x) : RR σ a x := by
  cases a <;> cases x <;> simp only [RR] at h ⊢
  obtain ⟨base, h1, h2⟩ := h
  exact ⟨base, hle _ _ h1, h2⟩
theorem FrR.mono {ρ σ : Ren} (hle : ρ.le σ) {f : AF} {c : Frame} (h : FrR ρ f c) : FrR σ f c :=
  ⟨h.fn, h.tm.mono hle, h.todo.mono hle, h.defers.mono hle, h.mode.mono hle, h.kind, h.round.mono hle⟩
theorem FrL.mono {ρ σ : Ren} (hle : ρ.le σ) {f : List AF} {c : List Frame} (h : FrL ρ f c) : FrL σ f c := by
  induction h with
  | nil => exact .nil
  | cons h _ ih => exact .cons (h.mono hle) ih

theorem FrR.evR {ρ : Ren} {f : AF} {c : Frame} (h : FrR ρ f c) : EvR ρ f.tmps c.eval := by
  intro o
  have := eval_ok h.tm o
  cases o <;> exact this

/-! temporaries -/
theorem TR.put {ρ : Ren} {nt : Nat} {t : T AV} {a : Array Value} (h : TR ρ nt t a) {d : Nat} {v : AV} {v' : Value} (hd : d < nt) (hv : VR ρ v v') : TR ρ nt (t.set d v) (a.setIfInBounds d v') := by
  refine ⟨by simp [h.size], fun i x hx => ?_⟩
  rw [T.get_set] at hx
  by_cases e : d = i
  · subst e
    rw [if_pos rfl] at hx
    cases hx
    have : d < a.size := by rw [h.size]; exact hd
    simpa [Array.getD_eq_getD_getElem?, this] using hv
  · rw [if_neg e] at hx
    have := h.get i x hx
    simpa [Array.getD_eq_getD_getElem?, Array.getElem?_setIfInBounds_ne e] using this
def putC (a : Array Value) (dst : Option Tmp) (v : Value) : Array Value := match dst with | some d => a.setIfInBounds d v | none => a
theorem putA_ok {ρ : Ren} {nt : Nat} {t t' : T AV} {a : Array Value} (h : TR ρ nt t a) {dst : Option Tmp} {v : AV} {v' : Value} (hp : putA nt t dst v = some t') (hv : VR ρ v v') :
    TR ρ nt t' (putC a dst v') := by
  cases dst with
  | none => simp only [putA, Option.some.injEq] at hp; subst hp; exact h
  | some d =>
    simp only [putA] at hp
    cases hb : Nat.blt d nt with
    | false => rw [hb] at hp; cases hp
    | true =>
      rw [hb] at hp
      simp only [Option.some.injEq] at hp
      subst hp
      exact h.put (by simpa [Nat.blt_eq] using hb) hv

theorem VR.not_bool {ρ : Ren} {a : AV} {v : Value} (h : VR ρ a v) (h1 : ∀ b, a ≠ .bool b) (h2 : a ≠ .top) (h3 : ∀ p e, a ≠ .sb p e) (b : Bool) : v ≠ .bool b := by
  cases h with
  | sb p e => exact absurd rfl (h3 p e)
  | top v => exact absurd rfl h2
  | bool c => exact absurd rfl (h1 c)
  | _ => exact fun e => by cases e

theorem wantedA_ok {ρ : Ren} {nt : Nat} {t : T AV} {a : Array Value} (h : TR ρ nt t a) {all : Array Oper} {o : Oper} {b : Bool} (hw : wantedA all o t = some b) : Region.wanted o (yielded all a) = b := by
  unfold wantedA at hw
  unfold Region.wanted
  cases hg : o.guard with
  | none => rw [hg] at hw; simpa using hw
  | some p =>
    obtain ⟨j, want⟩ := p
    rw [hg] at hw
    simp only at hw ⊢
    unfold yielded
    have ha : all[j]? = all.toList[j]? := by simp
    rw [ha]
    cases hj : all.toList[j]? with
    | none => rw [hj] at hw; simp at hw ⊢; exact hw
    | some g =>
      rw [hj] at hw
      simp only [Option.bind_some] at hw ⊢
      cases hd : g.dst with
      | none => rw [hd] at hw; simp at hw ⊢; exact hw
      | some d =>
        rw [hd] at hw
        simp only [Option.bind_some] at hw ⊢
        cases ht : t.get d with
        | none => rw [ht] at hw; cases hw
        | some v =>
          rw [ht] at hw
          have hv := h.get d v ht
          rw [Array.getD_eq_getD_getElem?] at hv
          have hnb : (∀ b, v ≠ .bool b) → v ≠ .top → (∀ p e, v ≠ .sb p e) → ((match a[d]? with | some (.bool b) => some b | _ => none) == some want) = false := by
            intro h1 h2 h3
            cases hx : a[d]? with
            | none => rfl
            | some x =>
              rw [hx] at hv
              cases x with
              | bool c => exact absurd rfl (hv.not_bool h1 h2 h3 c)
              | _ => rfl
          cases v with
          | top => cases hw
          | sb p e => cases hw
          | bool e =>
            simp only [Option.some.injEq] at hw
            cases hx : a[d]? with
            | none => rw [hx] at hv; cases hv
            | some x =>
              rw [hx] at hv
              cases hv
              subst hw
              simp
          | _ =>
            simp only [Option.some.injEq] at hw
            subst hw
            exact hnb (fun b e => by cases e) (fun e => by cases e) (fun p b e => by cases e)

end Go.AE

/-! AeStep3 -/
namespace Go.AE
variable [U : Unk]
set_option linter.unusedVariables false

/-! what is on top is done; frames of calls and of rounds -/
theorem IL.ops_inv {ρ : Ren} {all : Array Oper} {o : Oper} {rest : List Oper} {k : List AI} {l : List Item} (h : IL ρ (.ops all (o :: rest) :: k) l) :
    ∃ i idx k', l = .inRegion all (i :: idx) :: k' ∧ all[i]? = some o ∧ rest.map some = idx.map (fun i => all[i]?) ∧ IL ρ k k' := by
  cases h with
  | cons h hk =>
    cases h with
    | ops all rest idx h =>
      cases idx with
      | nil => cases h
      | cons i idx =>
        simp only [List.map_cons, List.cons.injEq] at h
        exact ⟨i, idx, _, rfl, h.1.symm, h.2, hk⟩

theorem finishA_ok {ρ : Ren} {f f' : AF} {c : Frame} (h : FrR ρ f c) {v : AV} {v' : Value} (hf : finishA f v = some f') (hv : VR ρ v v') : FrR ρ f' (c.finish v') := by
  have htodo := h.todo
  unfold finishA at hf
  split at hf
  · rename_i all o rest k ht
    rw [ht] at htodo
    obtain ⟨i, idx, k', e, ho, hm, hk⟩ := htodo.ops_inv
    split at hf
    · rename_i t hp
      simp only [Option.some.injEq] at hf
      subst hf
      have := putA_ok h.tm hp hv
      have ef : c.finish v' = { c with tmps := putC c.tmps o.dst v', todo := .inRegion all idx :: k' } := by
        simp only [Frame.finish, e, ho, Option.bind_some, putC]
        cases o.dst <;> rfl
      rw [ef]
      exact ⟨h.fn, this, .cons (.ops _ _ _ hm) hk, h.defers, h.mode, h.kind, h.round⟩
    · cases hf
  · rename_i l k ht
    rw [ht] at htodo
    simp only [Option.some.injEq] at hf
    subst hf
    generalize hl : c.todo = l' at htodo
    cases htodo with
    | cons a hk =>
      cases a with
      | inRange l base hb =>
        simp only [Frame.finish, hl]
        exact ⟨h.fn, h.tm, .cons (.endRange _ _ hb) hk, h.defers, h.mode, h.kind, h.round⟩
  · rename_i k ht
    rw [ht] at htodo
    simp only [Option.some.injEq] at hf
    subst hf
    generalize hl : c.todo = l' at htodo
    cases htodo with
    | cons a hk =>
      cases a with
      | beginRound =>
        simp only [Frame.finish, hl]
        exact ⟨h.fn, h.tm, hk, h.defers, h.mode, h.kind, h.round⟩
  · cases hf

theorem TR.ofArgs {ρ : Ren} {n : Nat} {args : List AV} {args' : List Value} (ha : VL ρ args args') : TR ρ (max n args.length) (.ofList args) (args'.toArray ++ Array.replicate (n - args'.toArray.size) undef) := by
  have hl := ha.1
  refine ⟨by simp; omega, fun i x hx => ?_⟩
  rw [T.get_ofList] at hx
  obtain ⟨v, hv, hvr⟩ := ha.get hx
  have hi : i < args'.length := (List.getElem?_eq_some_iff.1 hv).1
  rw [Array.getD_eq_getD_getElem?, Array.getElem?_append_left (by simpa using hi)]
  simpa [hv] using hvr

theorem enterF_ok {E : Env} (hE : OK E) {ρ : Ren} {f : FuncId} {args : List AV} {args' : List Value} {kind : CallKind} {g : AF} (hg : enterF E f args kind = some g) (ha : VL ρ args args') :
    FrR ρ g (Frame.enter E.P f args'.toArray kind) := by
  unfold enterF at hg
  split at hg
  · rename_i fn hf
    split at hg
    · rename_i c hc
      simp only [Option.some.injEq] at hg
      subst hg
      have e : Frame.enter E.P f args'.toArray kind = { fn := f, tmps := args'.toArray ++ Array.replicate (fn.ntmps - args'.toArray.size) undef, todo := [.code c], defers := [], mode := .run, kind } := by
        simp [Frame.enter, hE.fn f fn hf, hc]
      rw [e]
      exact ⟨rfl, TR.ofArgs ha, .cons (.code c) .nil, trivial, .run, rfl, trivial⟩
    · cases hg
  · cases hg

theorem setParams_ok {ρ : Ren} {nt : Nat} : ∀ {ps : List Tmp} {t t' : T AV} {tm : Array Value} {args : List AV} {args' : List Value}, TR ρ nt t tm → VL ρ args args' → setParams nt t ps args = some t' →
    args'.length = ps.length ∧ TR ρ nt t' ((ps.zip args').foldl (fun tmps x => tmps.setIfInBounds x.1 x.2) tm)
  | [], t, t', tm, [], args', h, ha, hs => by
    cases ha.nil_inv
    simp only [setParams, Option.some.injEq] at hs
    subst hs
    exact ⟨rfl, h⟩
  | [], t, t', tm, _ :: _, args', h, ha, hs => by cases hs
  | _ :: _, t, t', tm, [], args', h, ha, hs => by cases hs
  | p :: ps, t, t', tm, a :: as, args', h, ha, hs => by
    obtain ⟨v, r, rfl, h1, h2⟩ := ha.cons_inv
    simp only [setParams] at hs
    cases hb : Nat.blt p nt with
    | false => rw [hb] at hs; cases hs
    | true =>
      rw [hb] at hs
      obtain ⟨q1, q2⟩ := setParams_ok (h.put (by simpa [Nat.blt_eq] using hb) h1) h2 hs
      exact ⟨by simp [q1], q2⟩

theorem roundF_ok {E : Env} {ρ : Ren} {h : AHeap} {w : World} (hr : HR ρ h.blk.get w) {l : Nat} {base : Base} {args : List AV} {args' : List Value} {g : AF} (hb : ρ l = some base) (hg : roundF l args h = some g) (ha : VL ρ args args') :
    ∃ fn tm assign body, (Instr.yield base.cb args'.toArray).run E.P w = .ok (.round base.cb fn tm assign body) w ∧ FrR ρ g (Frame.round base.cb fn tm assign body .normal) := by
  unfold roundF at hg
  split at hg
  · rename_i st pending fn nt tmps params assign body d hl
    split at hg
    · rename_i t hs
      simp only [Option.some.injEq] at hg
      subst hg
      obtain ⟨tm, bd, h1, h2, h3⟩ := hr.blk l base _ hb hl
      obtain ⟨q1, q2⟩ := setParams_ok h2 ha hs
      refine ⟨fn, _, assign, body, ?_, ⟨rfl, q2, .cons (.code _) (.cons .beginRound (.cons (.code _) .nil)), trivial, .run, rfl, ⟨base, hb, rfl⟩⟩⟩
      have hgo := run_getObj E.P h3 (fun _ _ _ e => by cases e)
      simp only [Instr.yield, Instr.getLoop, Sem.run_bind, hgo, Result.andThen_ok, Sem.run_pure]
      simp [q1]
    · cases hg
  · cases hg
end Go.AE
