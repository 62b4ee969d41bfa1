/- What is proved here: an evaluator of the model's steps that the kernel can run, and that whatever it answers is what the model does (part 3 of 6: AeDat1, AeDat2, AeDat3, AeDat4, AeFrz, AeOps19, AeOps20, AeStep1, AeStep2, AeStep3, AeStep4, AeStep5, AeStep6, AeStep7). Conditions: those that each theorem states; they hold of no one program. -/
import Derived.Test.YthhmhljmamjgnaaBeB
set_option linter.unusedSectionVars false
/-! AeDat1 -/
namespace Go.AE
variable [U : Unk]
set_option linter.unusedVariables false

/-! unknown data: places and loads -/
theorem decT_ok {e : SB} (h : decT e = true) : evalB U.V e = true := by
  unfold decT at h
  split at h
  · rename_i hd; exact decideB_ok U.ok hd
  · cases h
theorem decF_ok {e : SB} (h : decF e = true) : evalB U.V e = false := by
  unfold decF at h
  split at h
  · rename_i hd; exact decideB_ok U.ok hd
  · cases h
theorem inR_ok {i n : SE} (h : inR i n = true) : 0 ≤ evalI U.V i ∧ evalI U.V i < evalI U.V n := by
  unfold inR at h
  obtain ⟨h1, h2⟩ := andT h
  have a := decF_ok h1
  have b := decT_ok h2
  rw [evalB_lss, decide_eq_false_iff_not, evalI_c] at a
  rw [evalB_lss, decide_eq_true_eq] at b
  omega

theorem cellAV_ok {ρ : Ren} {x i : SE} {j : Nat} {kd : Kd} {v : Value} (h : DV U.K ρ.imm kd v (evalD U.V (.cell x i j))) : VR ρ (cellAV x i j kd) v := by
  cases h with
  | int k n _ hr e =>
    have e : evalI U.V (.cell x i j) = n := e
    simp only [cellAV]
    split
    · have := mkI_ok ρ k (.cell x i j)
      rw [e] at this; exact this
    · rename_i hk
      have hb := hr.resolve_left (by simpa using hk)
      have := mkI_ok ρ k (.conv k (.cell x i j))
      rw [evalI_conv, e, wrap_within_id k n hb.1 hb.2] at this
      exact this
  | bool b _ e =>
    have := mkB_ok ρ true (.cell x i j)
    have e : (evalB U.V (.cell x i j) == true) = b := by unfold evalB; rw [e]; cases b <;> rfl
    rw [e] at this; exact this
  | str s _ e =>
    have := VR.ss (ρ := ρ) (.cell x i j)
    have e : evalS U.V (.cell x i j) = s := e
    rw [e] at this; exact this
  | nil e _ h1 h2 => exact .dat e _ _ _ _ (.nil e _ h1 h2)
  | empty e a cap _ h1 h2 => exact .dat e _ _ _ _ (.empty e a cap _ h1 h2)
  | slc e b off n cap _ ks arr hk ha hn hc h1 hin hrow hv => exact .dat e _ _ _ _ (.slc e b off n cap _ ks arr hk ha hn hc h1 hin hrow hv)

omit U in
theorem kinds_size {E : Env} {n : Nat} {t : TypeId} {ks : List Kd} (h : kindsF E.desc E.szIs n t = some ks) : E.szIs t ks.length = true ∧ ∃ m, n = m + 1 ∧ kinds1 E.szIs (kindsF E.desc E.szIs m) (E.desc t) = some ks := by
  cases n with
  | zero => cases h
  | succ m =>
    simp only [kindsF] at h
    split at h
    · rename_i l hl
      split at h
      · rename_i hs; cases h; exact ⟨hs, m, rfl, hl⟩
      · cases h
    · cases h
omit U in
theorem Env.kinds_size {E : Env} {t : TypeId} {ks : List Kd} (h : E.kinds t = some ks) : E.szIs t ks.length = true := (AE.kinds_size h).1
omit U in
theorem DV.at {K : TypeId → Option (List Kd)} {M : Nat → Option (Array Value)} {e : TypeId} {a : Option Addr} {n cap : Nat} {d : D} (h : DV K M (.slice e) (.slice a n cap) d) (hn : 0 < n) : ∃ b o, a = some ⟨b, o, none⟩ ∧ n ≤ cap := by
  cases h
  · omega
  · omega
  · exact ⟨_, _, rfl, by assumption⟩

omit U in
/-- a row of a slice of data -/
theorem DV.row {K : TypeId → Option (List Kd)} {M : Nat → Option (Array Value)} {e : TypeId} {b o n cap i : Nat} {d : D} {ks : List Kd} (h : DV K M (.slice e) (.slice (some ⟨b, o, none⟩) n cap) d) (hk : K e = some ks) (hi : i < n) :
    ∃ arr, M b = some arr ∧ o + n * ks.length ≤ arr.size ∧ d.rows.length = n ∧ ∀ j kd, ks[j]? = some kd → DV K M kd (arr.getD (o + i * ks.length + j) Go.undef) ((d.rows.getD i default).cells.getD j default) := by
  cases h with
  | empty => omega
  | slc _ _ _ _ _ _ ks' arr hk' ha hn hc h1 hin hrow hv =>
    rw [hk] at hk'; cases hk'
    exact ⟨arr, ha, hin, hn, fun j kd hj => hv i j kd hi hj⟩
omit U in
theorem RowsAt.row {K : TypeId → Option (List Kd)} {M : Nat → Option (Array Value)} {ks : List Kd} {cur : Array Value} {o i : Nat} {rows : List D} (h : RowsAt K M ks cur o rows) (hi : i < rows.length) :
    o + rows.length * ks.length ≤ cur.size ∧ ∀ j kd, ks[j]? = some kd → DV K M kd (cur.getD (o + i * ks.length + j) Go.undef) ((rows.getD i default).cells.getD j default) :=
  ⟨h.1, fun j kd hj => h.2.2 i j kd hi hj⟩

section
variable {E : Env} (hE : OK E) {ρ : Ren} {h : AHeap} {w : World}
include hE

omit hE in
theorem cellAVs_ok {ks : List Kd} {y i : SE} {arr : Array Value} {p : Nat} (hv : ∀ j kd, ks[j]? = some kd → DV U.K ρ.imm kd (arr.getD (p + j) Go.undef) (evalD U.V (.cell y i j))) :
    ∀ (n j : Nat) (l : List AV), cellAVs y i ks j n = some l → (n = 0 ∨ j + n ≤ ks.length) ∧ l.length = n ∧ ∀ q a, l[q]? = some a → VR ρ a (arr.getD (p + j + q) Go.undef)
  | 0, j, l, hl => by
    simp only [cellAVs, Option.some.injEq] at hl
    subst hl
    exact ⟨.inl rfl, rfl, fun q a hq => by simp at hq⟩
  | n + 1, j, l, hl => by
    simp only [cellAVs] at hl
    split at hl
    · rename_i k l' hk hl'
      cases hl
      obtain ⟨h1, h2, h3⟩ := cellAVs_ok hv n (j + 1) l' hl'
      have hjl : j < ks.length := (List.getElem?_eq_some_iff.1 hk).1
      refine ⟨.inr (by omega), by simp [h2], fun q a hq => ?_⟩
      cases q with
      | zero =>
        simp only [List.getElem?_cons_zero, Option.some.injEq] at hq
        subst hq
        exact cellAV_ok (hv j k hk)
      | succ q =>
        simp only [List.getElem?_cons_succ] at hq
        have := h3 q a hq
        rw [show p + j + (q + 1) = p + (j + 1) + q by omega]
        exact this
    · cases hl

theorem loadRow_ok {t e : TypeId} {ks : List Kd} {y i : SE} {off b p : Nat} {fz : Nat × Nat} {arr : Array Value} {a : AV} (hb : w.heap[b]? = some (.cells arr e fz)) (hsz : p + ks.length ≤ arr.size)
    (hv : ∀ j kd, ks[j]? = some kd → DV U.K ρ.imm kd (arr.getD (p + j) Go.undef) (evalD U.V (.cell y i j))) (hl : loadRow E t ks y i off = some a) :
    ∃ v, (Instr.loadAt t (.pointer (some ⟨b, p + off, none⟩))).run E.P w = .ok v w ∧ VR ρ a v := by
  unfold loadRow at hl
  split at hl
  · rename_i d hd
    unfold Instr.loadAt loadVar
    simp only [Instr.sureAddr, Sem.run_bind, Sem.run_pure, Result.andThen_ok, hE.run_isAgg hd]
    split at hl
    · rename_i hag
      split at hl
      · rename_i l hc
        cases hl
        obtain ⟨h1, h2, h3⟩ := cellAVs_ok hv _ _ _ hc
        simp only [hag, if_true, Sem.run_bind, hE.run_size hd, Result.andThen_ok]
        by_cases hz : E.size t = 0
        · rw [hz]
          refine ⟨.agg #[], by simp [loadCells, loadCellsFrom], ?_⟩
          have : l = [] := by rw [hz] at h2; exact List.eq_nil_of_length_eq_zero h2
          subst this
          exact .agg [] [] rfl (by simp)
        · have hle : off + E.size t ≤ ks.length := h1.resolve_left hz
          rw [run_loadCells_raw E.P w b (p + off) (E.size t) arr e fz hb (by omega)]
          simp only [Result.andThen_ok, Sem.run_pure]
          refine ⟨_, rfl, .agg _ _ (by simp; omega) ?_⟩
          intro q x v hq hqv
          have hql : q < E.size t := by have := (List.getElem?_eq_some_iff.1 hq).1; omega
          have := h3 q x hq
          rw [List.getElem?_take, if_pos hql, List.getElem?_drop, Array.getElem?_toList] at hqv
          have ev : arr.getD (p + off + q) Go.undef = v := by simp [Array.getD_eq_getD_getElem?, hqv]
          rw [ev] at this; exact this
      · cases hl
    · rename_i hag
      split at hl
      · rename_i k hk
        cases hl
        have hkl : off < ks.length := (List.getElem?_eq_some_iff.1 hk).1
        have hlt : p + off < arr.size := by omega
        have hc : w.cell? ⟨b, p + off, none⟩ = some (arr.getD (p + off) Go.undef) := by
          simp [World.cell?, hb, Array.getD_eq_getD_getElem?, hlt]
        simp only [hag, Bool.false_eq_true, if_false, run_load, hc]
        exact ⟨_, rfl, cellAV_ok (hv off k hk)⟩
      · cases hl
  · cases hl

theorem loadB_ok (hr : HR ρ h.blk.get w) {t : TypeId} {x a : AV} {xv : Value} (hx : VR ρ x xv) (hl : loadB E t x h = some a) :
    ∃ v, (Instr.loadAt t xv).run E.P w = .ok v w ∧ VR ρ a v := by
  unfold loadB at hl
  split at hl
  · rename_i e y i off
    split at hl
    · rename_i ks hk
      cases hx with
      | dptr _ _ _ _ b o n cap ks' hd hk' h0 hi ho =>
        have hk2 : U.K e = some ks := by rw [hE.kd, ← hE.ke]; exact hk
        rw [hk2] at hk'; cases hk'
        obtain ⟨arr, a1, a2, a3, a4⟩ := hd.row hk2 hi
        obtain ⟨et, fz, hw⟩ := hr.imm b arr a1
        have hle : ((evalI U.V i).toNat + 1) * ks.length ≤ n * ks.length := Nat.mul_le_mul_right _ hi
        rw [Nat.add_mul, Nat.one_mul] at hle
        exact loadRow_ok hE (p := o + (evalI U.V i).toNat * ks.length) hw (by omega) a4 hl
    · cases hl
  · rename_i b es i off
    split at hl
    · rename_i e y hb
      split at hl
      · rename_i ks hk
        split at hl
        · rename_i hc
          obtain ⟨c1, c2⟩ := andT hc
          have hes := beqT c1
          subst hes
          obtain ⟨r0, r1⟩ := inR_ok c2
          try rw [evalI_lenL, lenBase_ok, ← evalI_lenL] at r1
          rw [evalI_lenL] at r1
          cases hx with
          | aptr _ _ _ _ base hρ h0 =>
            obtain ⟨ks', cur, et, fz, b1, b2, b3, b4, b5⟩ := hr.blk b base _ hρ hb
            have hk2 : U.K e = some ks := by rw [hE.kd, ← hE.ke]; exact hk
            rw [hk2] at b1; cases b1
            have hi : (evalI U.V i).toNat < (evalD U.V y).rows.length := by omega
            obtain ⟨a2, a4⟩ := b5.row hi
            have hle : ((evalI U.V i).toNat + 1) * ks.length ≤ (evalD U.V y).rows.length * ks.length := Nat.mul_le_mul_right _ hi
            rw [Nat.add_mul, Nat.one_mul] at hle
            exact loadRow_ok hE (p := base.co + (evalI U.V i).toNat * ks.length) b2 (by omega) a4 hl
        · cases hl
      · cases hl
    · cases hl
  · exact loadA_ok hE hr hx hl

theorem indexAddrB_ok {t : TypeId} {x i a : AV} {xv iv : Value} (hx : VR ρ x xv) (hi : VR ρ i iv) (hl : indexAddrB E t x i = some a) :
    ∃ v, (Instr.indexAt t xv iv).run E.P w = .ok v w ∧ VR ρ a v := by
  unfold indexAddrB at hl
  split at hl
  · rename_i e' y
    split at hl
    · rename_i e k ie hd hti
      split at hl
      · rename_i k0 kr hk
        split at hl
        · rename_i hc
          cases hl
          obtain ⟨c1, c2⟩ := andT hc
          have he := beqT c1
          subst he
          obtain ⟨r0, r1⟩ := inR_ok c2
          try rw [evalI_lenL, lenBase_ok, ← evalI_lenL] at r1
          rw [evalI_lenL] at r1
          have hiv := toI_ok hi hti
          subst hiv
          have hk2 : U.K e = some (k0 :: kr) := by rw [hE.kd, ← hE.ke]; exact hk
          cases hx with
          | dat _ _ ad n cap hdv =>
            obtain ⟨_, _, _, q1, q2⟩ := hdv.slice_inv
            cases q1
            rw [q2] at r1
            obtain ⟨b, o, rfl, hcap⟩ := hdv.at (by omega)
            refine ⟨.pointer (some ⟨b, o + (evalI U.V ie).toNat * (k0 :: kr).length + 0, none⟩), ?_, .dptr e y ie 0 b o n cap _ hdv hk2 r0 (by omega) (by simp)⟩
            have hlt : 0 ≤ evalI U.V ie ∧ evalI U.V ie < n := by omega
            simp [Instr.indexAt, asIntOf, hE.run_und hd, hE.run_szIs (Env.kinds_size hk), hlt, add_at]
        · cases hl
      · cases hl
    · cases hl
  · rename_i b es n nl
    split at hl
    · rename_i e k ie hd hti
      split at hl
      · rename_i hc
        cases hl
        obtain ⟨c1, c2⟩ := andT hc
        obtain ⟨r0, r1⟩ := inR_ok c2
        try rw [evalI_lenL, lenBase_ok, ← evalI_lenL] at r1
        have hiv := toI_ok hi hti
        subst hiv
        cases hx with
        | asl _ _ _ _ cap base hb h0 hcap hz hnl =>
          refine ⟨.pointer (some ⟨base.cb, base.co + (evalI U.V ie).toNat * es + 0, none⟩), ?_, .aptr b es ie 0 base hb r0⟩
          have hlt : 0 ≤ evalI U.V ie ∧ evalI U.V ie < ((evalI U.V n).toNat : Int) := by omega
          generalize (evalI U.V n).toNat = N at hlt
          simp [Instr.indexAt, asIntOf, hE.run_und hd, hE.run_szIs c1, hlt, add_at]
        | aslEnd _ _ _ _ ad h0 hnl => omega
      · cases hl
    · cases hl
  · exact indexAddrA_ok hE hx hi hl

theorem fieldAt_run {t : TypeId} {fs : Array Field} {f : Nat} {fd : Field} (hd : E.desc t = some (.struct fs)) (hf : fs.toList[f]? = some fd) {n : Nat} (hs : E.size fd.type = n + 1) (b o : Nat) :
    (Instr.fieldAt t (.pointer (some ⟨b, o, none⟩)) f).run E.P w = .ok (.pointer (some ⟨b, o + fd.offset, none⟩)) w := by
  have hf' : fs[f]? = some fd := by simpa using hf
  have hsz : ∀ w, (sizeOf fd.type).run E.P w = .ok (n + 1) w := by
    intro w
    unfold Env.size at hs
    cases hi : E.ty.get fd.type with
    | none => simp [hi] at hs
    | some i => simp only [hi] at hs; rw [hE.run_sz hi, hs]
  simp [Instr.fieldAt, hE.run_und hd, hf', Instr.sureAddr, fieldPlace, hsz, add_at]

theorem fieldAddrB_ok {t : TypeId} {x a : AV} {f : Nat} {xv : Value} (hx : VR ρ x xv) (hl : fieldAddrB E t x f = some a) :
    ∃ v, (Instr.fieldAt t xv f).run E.P w = .ok v w ∧ VR ρ a v := by
  unfold fieldAddrB at hl
  split at hl
  · rename_i e y i off
    split at hl
    · rename_i fs ks hd hk
      split at hl
      · rename_i fd hf
        split at hl
        · rename_i n hs hb
          cases hl
          cases hx with
          | dptr _ _ _ _ b o n' cap ks' hdv hk' h0 hi ho =>
            have hk2 : U.K e = some ks := by rw [hE.kd, ← hE.ke]; exact hk
            rw [hk2] at hk'; cases hk'
            have := VR.dptr (ρ := ρ) e y i (off + fd.offset) b o n' cap ks hdv hk2 h0 hi (bltT hb)
            rw [← Nat.add_assoc] at this
            exact ⟨_, fieldAt_run hE hd hf hs b _, this⟩
        · cases hl
      · cases hl
    · cases hl
  · rename_i b es i off
    split at hl
    · rename_i fs hd
      split at hl
      · rename_i fd hf
        split at hl
        · cases hl
        · rename_i n hs
          cases hl
          cases hx with
          | aptr _ _ _ _ base hb h0 =>
            have := VR.aptr (ρ := ρ) b es i (off + fd.offset) base hb h0
            rw [← Nat.add_assoc] at this
            obtain ⟨m, hm⟩ : ∃ m, E.size fd.type = m + 1 := by
              cases hq : E.size fd.type with
              | zero => exact absurd hq hs
              | succ m => exact ⟨m, rfl⟩
            exact ⟨_, fieldAt_run hE hd hf hm base.cb _, this⟩
      · cases hl
    · cases hl
  · exact fieldAddrA_ok hE hx hl
end
end Go.AE

/-! AeDat2 -/
namespace Go.AE
variable [U : Unk]
set_option linter.unusedVariables false

/-! unknown data: stores -/
omit U in
theorem isTopF {a : AV} (h : a.isTop = false) : a ≠ .top := by rintro rfl; cases h
theorem unpackL_pack : ∀ (l : List UInt8), unpackL l.length (packL l) = l
  | [] => rfl
  | b :: r => by
    have h := packL_mod b r
    simp only [List.length_cons, unpackL, h.1, h.2, unpackL_pack r]
    congr 1
    simp
theorem toSE_ok {ρ : Ren} {kd : Kd} {a : AV} {v : Value} {x : SE} (h : VR ρ a v) (hs : toSE kd a = some x) : DV U.K ρ.imm kd v (evalD U.V x) := by
  unfold toSE at hs
  split at hs
  · rename_i k k' n
    split at hs
    · rename_i hc
      cases hs
      cases h
      obtain ⟨c1, c2⟩ := andT hc
      have hk : k = k' := by simpa using c1
      subst hk
      refine .int k n _ ?_ rfl
      simpa using c2
    · cases hs
  · rename_i k k' e
    split at hs
    · rename_i hc
      cases hs
      cases h
      obtain ⟨c1, c2⟩ := andT hc
      have hk : k = k' := by simpa using c1
      subst hk
      refine .int k _ _ ?_ rfl
      rcases Bool.or_eq_true_iff.1 c2 with c | c
      · exact .inl (by simpa using c)
      · right
        have hb := bnd_ok U.ok x
        unfold within at c
        split at c
        · rename_i l h hl hh
          simp only [Bool.and_eq_true, decide_eq_true_eq] at c
          have h1 := hb.1 l hl
          have h2 := hb.2 h hh
          omega
        · cases c
    · cases hs
  · rename_i b
    cases hs; cases h
    exact .bool b _ rfl
  · rename_i pos e
    cases hs; cases h
    refine .bool _ _ ?_
    cases pos with
    | true => show (evalD U.V e).toBool = _; unfold evalB; cases (evalD U.V e).toBool <;> rfl
    | false => show (!(evalD U.V e).toBool) = _; unfold evalB; cases (evalD U.V e).toBool <;> rfl
  · rename_i l b
    cases hs; cases h
    refine .str _ _ ?_
    show (⟨(unpackL _ _).toArray⟩ : ByteArray) = _
    rw [unpackL_pack]
  · cases hs; cases h
    exact .str _ _ rfl
  · rename_i e e' y
    split at hs
    · rename_i hc
      cases hs
      have := beqT hc
      subst this
      cases h
      assumption
    · cases hs
  · cases hs; cases h
    exact .nil _ _ rfl rfl
  · cases hs

omit U in
theorem List.getD_modify (l : List D) (i : Nat) (f : D → D) (q : Nat) (hq : q < l.length) : (l.modify i f).getD q default = if i = q then f (l.getD q default) else l.getD q default := by
  simp only [List.getD_eq_getElem?_getD, List.getElem?_modify]
  split
  · rename_i h; subst h; simp [hq]
  · simp [hq]

/-- a datum stored into a row -/
theorem RowsAt.upd {ρ : Ren} {ks : List Kd} {cur cur' : Array Value} {o j : Nat} {y i x : SE} {kd : Kd} {v : Value} (h : RowsAt U.K ρ.imm ks cur o (evalD U.V y).rows) (hi : (evalI U.V i).toNat < (evalD U.V y).rows.length) (hj : ks[j]? = some kd)
    (hd : DV U.K ρ.imm kd v (evalD U.V x)) (hs : cur'.size = cur.size) (hg : ∀ p, cur'[p]? = if p = o + (evalI U.V i).toNat * ks.length + j then some v else cur[p]?) : RowsAt U.K ρ.imm ks cur' o (evalD U.V (.upd y i j x)).rows := by
  have er : (evalD U.V (.upd y i j x)).rows = (evalD U.V y).rows.modify (evalI U.V i).toNat fun r => .row (r.cells.set j (evalD U.V x)) := rfl
  have el : (evalD U.V (.upd y i j x)).rows.length = (evalD U.V y).rows.length := by rw [er]; simp
  obtain ⟨h1, h2, h3⟩ := h
  have hjl : j < ks.length := (List.getElem?_eq_some_iff.1 hj).1
  refine ⟨by rw [el, hs]; exact h1, fun q hq => ?_, fun q c kd' hq hc => ?_⟩
  · rw [el] at hq
    rw [er, List.getD_modify _ _ _ _ hq]
    split
    · simp only [D.cells, List.length_set]; exact h2 q hq
    · exact h2 q hq
  · rw [el] at hq
    have hcl : c < ks.length := (List.getElem?_eq_some_iff.1 hc).1
    have hold := h3 q c kd' hq hc
    rw [er, List.getD_modify _ _ _ _ hq]
    by_cases hqi : (evalI U.V i).toNat = q
    · rw [if_pos hqi]
      simp only [D.cells]
      by_cases hcj : c = j
      · subst hcj
        rw [hj] at hc; cases hc
        have e1 : cur'.getD (o + q * ks.length + c) Go.undef = v := by simp [Array.getD_eq_getD_getElem?, hg, hqi]
        have e2 : ((((evalD U.V y).rows.getD q default).cells.set c (evalD U.V x)).getD c default) = evalD U.V x := by
          have := h2 q hq
          generalize ((evalD U.V y).rows.getD q default).cells = cl at this ⊢
          simp [List.getD_eq_getElem?_getD, this, hcl]
        rw [e1]
        simp only [D.cells] at e2
        rw [e2]; exact hd
      · have e1 : cur'.getD (o + q * ks.length + c) Go.undef = cur.getD (o + q * ks.length + c) Go.undef := by
          simp only [Array.getD_eq_getD_getElem?, hg, hqi]
          rw [if_neg (by omega)]
        have e2 : ((((evalD U.V y).rows.getD q default).cells.set j (evalD U.V x)).getD c default) = ((evalD U.V y).rows.getD q default).cells.getD c default := by
          simp only [List.getD_eq_getElem?_getD]
          rw [List.getElem?_set_ne (fun e => hcj e.symm)]
        rw [e1]
        simp only [D.cells] at e2 hold ⊢
        rw [e2]; exact hold
    · rw [if_neg hqi]
      have e1 : cur'.getD (o + q * ks.length + c) Go.undef = cur.getD (o + q * ks.length + c) Go.undef := by
        simp only [Array.getD_eq_getD_getElem?, hg]
        rw [if_neg ?_]
        intro e
        have hlt : (evalI U.V i).toNat < q ∨ q < (evalI U.V i).toNat := by omega
        rcases hlt with hlt | hlt
        · have := Nat.mul_le_mul_right ks.length hlt
          rw [Nat.succ_mul] at this
          omega
        · have := Nat.mul_le_mul_right ks.length hlt
          rw [Nat.succ_mul] at this
          omega
      rw [e1]; exact hold

theorem updRow_ok {ρ : Ren} {ks : List Kd} {o : Nat} {i : SE} : ∀ (l : List AV) (vs : List Value) (j : Nat) (y y' : SE) (cur cur' : Array Value), RowsAt U.K ρ.imm ks cur o (evalD U.V y).rows → (evalI U.V i).toNat < (evalD U.V y).rows.length → updRow i ks y j l = some y' → VL ρ l vs →
    cur'.size = cur.size → (∀ p, cur'[p]? = if o + (evalI U.V i).toNat * ks.length + j ≤ p ∧ p < o + (evalI U.V i).toNat * ks.length + j + vs.length then vs[p - (o + (evalI U.V i).toNat * ks.length + j)]? else cur[p]?) →
    RowsAt U.K ρ.imm ks cur' o (evalD U.V y').rows
  | [], vs, j, y, y', cur, cur', h, hi, hu, hv, hs, hg => by
    simp only [updRow, Option.some.injEq] at hu
    subst hu
    have := hv.nil_inv
    subst this
    have : cur' = cur := by
      apply Array.ext_getElem?
      intro p
      rw [hg, if_neg (by simp)]
    rw [this]; exact h
  | a :: r, vs, j, y, y', cur, cur', h, hi, hu, hv, hs, hg => by
    obtain ⟨v, vr, rfl, ha, hr⟩ := hv.cons_inv
    simp only [updRow] at hu
    split at hu
    · rename_i k hk
      split at hu
      · rename_i x hx
        have hd := toSE_ok ha hx
        have hjl : j < ks.length := (List.getElem?_eq_some_iff.1 hk).1
        have hle : ((evalI U.V i).toNat + 1) * ks.length ≤ (evalD U.V y).rows.length * ks.length := Nat.mul_le_mul_right _ hi
        rw [Nat.add_mul, Nat.one_mul] at hle
        have hin := h.1
        have h1 := h.upd (cur' := cur.setIfInBounds (o + (evalI U.V i).toNat * ks.length + j) v) hi hk hd (by simp) (fun p => by
          rw [Array.getElem?_setIfInBounds]
          by_cases e : o + (evalI U.V i).toNat * ks.length + j = p
          · rw [if_pos e, if_pos e.symm, if_pos (by omega)]
          · rw [if_neg e, if_neg (fun q => e q.symm)])
        have el : (evalD U.V (.upd y i j x)).rows.length = (evalD U.V y).rows.length := by
          have er : (evalD U.V (.upd y i j x)).rows = (evalD U.V y).rows.modify (evalI U.V i).toNat fun r => .row (r.cells.set j (evalD U.V x)) := rfl
          rw [er]; simp
        refine updRow_ok r vr (j + 1) _ y' _ cur' h1 (by rw [el]; exact hi) hu hr (by rw [hs]; simp) (fun p => ?_)
        rw [hg]
        simp only [List.length_cons]
        by_cases e : p = o + (evalI U.V i).toNat * ks.length + j
        · subst e
          rw [if_pos (by omega), if_neg (by omega), Array.getElem?_setIfInBounds_self]
          rw [if_pos (by omega)]
          simp
        · by_cases c : o + (evalI U.V i).toNat * ks.length + j ≤ p ∧ p < o + (evalI U.V i).toNat * ks.length + j + (vr.length + 1)
          · rw [if_pos c, if_pos (by omega)]
            rw [show p - (o + (evalI U.V i).toNat * ks.length + j) = (p - (o + (evalI U.V i).toNat * ks.length + (j + 1))) + 1 by omega]
            simp
          · rw [if_neg c, if_neg (by omega), Array.getElem?_setIfInBounds_ne (fun q => e q.symm)]
      · cases hu
    · cases hu

section
variable {E : Env} (hE : OK E) {ρ : Ren} {h : AHeap} {w : World}
include hE

omit hE in
theorem updRow_one {i : SE} {ks : List Kd} : ∀ (l : List AV) (j : Nat) (y y' : SE), updRow i ks y j l = some y' → j + l.length ≤ ks.length ∨ l = []
  | [], _, _, _, _ => .inr rfl
  | a :: r, j, y, y', hu => by
    simp only [updRow] at hu
    split at hu
    · rename_i k hk
      split at hu
      · rename_i x hx
        have hjl : j < ks.length := (List.getElem?_eq_some_iff.1 hk).1
        rcases updRow_one r (j + 1) _ _ hu with h | h
        · left; simp only [List.length_cons]; omega
        · left; subst h; simp; omega
      · cases hu
    · cases hu
omit hE in
theorem updRow_oneCell {i : SE} {ks : List Kd} : ∀ (l : List AV) (vs : List Value) (j : Nat) (y y' : SE), updRow i ks y j l = some y' → VL ρ l vs → ∀ v ∈ vs, v.oneCell' = true
  | [], vs, _, _, _, _, hv, v, hm => by have := hv.nil_inv; subst this; cases hm
  | a :: r, vs, j, y, y', hu, hv, v, hm => by
    obtain ⟨v0, vr, rfl, ha, hr⟩ := hv.cons_inv
    simp only [updRow] at hu
    split at hu
    · rename_i k hk
      split at hu
      · rename_i x hx
        rcases List.mem_cons.1 hm with rfl | hm
        · have := toSE_ok ha hx
          cases this <;> rfl
        · exact updRow_oneCell r vr (j + 1) _ _ hu hr v hm
      · cases hu
    · cases hu

theorem storeB_ok (hr : HR ρ h.blk.get w) {t : TypeId} {x a : AV} {xv v : Value} {h' : AHeap} (hx : VR ρ x xv) (ha : VR ρ a v) (hl : storeB E t x a h = some h') :
    ∃ w', (Instr.storeAt t xv v).run E.P w = .ok () w' ∧ HR ρ h'.blk.get w' ∧ Ext ρ ρ h h' w w' := by
  unfold storeB at hl
  split at hl
  · rename_i b es i off
    split at hl
    · rename_i e y hb
      split at hl
      · rename_i ks hk
        split at hl
        · rename_i hc
          split at hl
          · rename_i y' hu
            cases hl
            obtain ⟨c123, c4⟩ := andT hc
            obtain ⟨c12, c3⟩ := andT c123
            obtain ⟨c1, c2⟩ := andT c12
            have hes := beqT c1
            subst hes
            obtain ⟨r0, r1⟩ := inR_ok c2
            try rw [evalI_lenL, lenBase_ok, ← evalI_lenL] at r1
            rw [evalI_lenL] at r1
            have hcs := ha.cells (isTopF (by simpa using c4))
            cases hx with
            | aptr _ _ _ _ base hρ h0 =>
              obtain ⟨ks', cur, et, fz, b1, b2, b3, b4, b5⟩ := hr.blk b base _ hρ hb
              have hk2 : U.K e = some ks := by rw [hE.kd, ← hE.ke]; exact hk
              rw [hk2] at b1; cases b1
              have hi : (evalI U.V i).toNat < (evalD U.V y).rows.length := by omega
              have hle : ((evalI U.V i).toNat + 1) * ks.length ≤ (evalD U.V y).rows.length * ks.length := Nat.mul_le_mul_right _ hi
              rw [Nat.add_mul, Nat.one_mul] at hle
              have hin := b5.1
              have hlen : a.cells.length = v.cells.toList.length := hcs.1
              have hfit : base.co + (evalI U.V i).toNat * ks.length + off + 0 + v.cells.toList.length ≤ cur.size ∨ v.cells.toList = [] := by
                rcases updRow_one _ _ _ _ hu with q | q
                · left; omega
                · right; rw [q] at hlen; exact List.eq_nil_of_length_eq_zero hlen.symm
              have hst : ∃ w' cur', (storeCells ⟨base.cb, base.co + (evalI U.V i).toNat * ks.length + off, none⟩ v.cells.toList 0).run E.P w = .ok () w' ∧ w'.heap[base.cb]? = some (.cells cur' et fz) ∧ cur'.size = cur.size ∧
                  (∀ j, cur'[j]? = if base.co + (evalI U.V i).toNat * ks.length + off ≤ j ∧ j < base.co + (evalI U.V i).toNat * ks.length + off + v.cells.toList.length then v.cells.toList[j - (base.co + (evalI U.V i).toNat * ks.length + off)]? else cur[j]?) ∧
                  w'.heap.size = w.heap.size ∧ (∀ k, k ≠ base.cb → w'.heap[k]? = w.heap[k]?) ∧ w'.os = w.os ∧ w'.tape = w.tape ∧ w'.output = w.output := by
                rcases hfit with hfit | hnil
                · exact run_storeCells E.P base.cb (base.co + (evalI U.V i).toNat * ks.length + off) et fz v.cells.toList 0 w cur b2 hfit (by rw [b3]; exact b4) (updRow_oneCell _ _ _ _ _ hu hcs)
                · rw [hnil]
                  exact ⟨w, cur, by simp [storeCells], b2, rfl, fun j => by rw [if_neg (by simp)], rfl, fun _ _ => rfl, rfl, rfl, rfl⟩
              obtain ⟨w', cur', q1, q2, q3, q4, q5, q6, q7, q8, q9⟩ := hst
              have hrows := updRow_ok a.cells v.cells.toList off y y' cur cur' b5 hi hu hcs q3 q4
              obtain ⟨p1, p2⟩ := hr.put hρ (by rw [hb]; exact Option.some_ne_none _) (.arr e y') w' ⟨ks, cur', et, fz, hk2, q2, by rw [q3, b3], b4, hrows⟩ q5 q6 q7 q8 q9
              refine ⟨w', ?_, p1, p2⟩
              unfold Instr.storeAt storeVar
              have e : v.cells.size = a.cells.length := by have := hcs.1; simp at this; omega
              simp [Instr.sureAddr, hE.run_szIs c3, e, q1]
          · cases hl
        · cases hl
      · cases hl
    · cases hl
  · exact storeA_ok hE hr hx ha hl
end
end Go.AE

/-! AeDat3 -/
namespace Go.AE
variable [U : Unk]
set_option linter.unusedVariables false

/-! unknown data: append -/
/-- rows of data as a list of values -/
def ValRows (K : TypeId → Option (List Kd)) (M : Nat → Option (Array Value)) (ks : List Kd) (vs : List Value) (rows : List D) : Prop :=
  vs.length = rows.length * ks.length ∧ (∀ i, i < rows.length → (rows.getD i default).cells.length = ks.length) ∧
    ∀ i j kd, i < rows.length → ks[j]? = some kd → DV K M kd (vs.getD (i * ks.length + j) Go.undef) ((rows.getD i default).cells.getD j default)
section
variable {K : TypeId → Option (List Kd)} {M : Nat → Option (Array Value)} {ks : List Kd}
omit U
theorem ValRows.nil : ValRows K M ks [] [] := ⟨by simp, fun i h => by simp at h, fun i j kd h => by simp at h⟩
theorem getD_app {l m : List D} {i : Nat} : (l ++ m).getD i default = if i < l.length then l.getD i default else m.getD (i - l.length) default := by
  simp only [List.getD_eq_getElem?_getD]
  by_cases h : i < l.length
  · rw [if_pos h, List.getElem?_append_left h]
  · rw [if_neg h, List.getElem?_append_right (by omega)]
theorem getD_appV {l m : List Value} {i : Nat} : (l ++ m).getD i Go.undef = if i < l.length then l.getD i Go.undef else m.getD (i - l.length) Go.undef := by
  simp only [List.getD_eq_getElem?_getD]
  by_cases h : i < l.length
  · rw [if_pos h, List.getElem?_append_left h]
  · rw [if_neg h, List.getElem?_append_right (by omega)]
theorem idx_lt {i n l j : Nat} (hi : i < n) (hj : j < l) : i * l + j < n * l := by
  have := Nat.mul_le_mul_right l hi
  rw [Nat.succ_mul] at this
  omega
theorem ValRows.append {vs ws : List Value} {r s : List D} (h : ValRows K M ks vs r) (k : ValRows K M ks ws s) : ValRows K M ks (vs ++ ws) (r ++ s) := by
  refine ⟨by simp [h.1, k.1, Nat.add_mul], fun i hi => ?_, fun i j kd hi hj => ?_⟩
  · rw [getD_app]
    simp only [List.length_append] at hi
    split
    · rename_i c; exact h.2.1 i c
    · exact k.2.1 _ (by omega)
  · have hjl : j < ks.length := (List.getElem?_eq_some_iff.1 hj).1
    simp only [List.length_append] at hi
    rw [getD_app, getD_appV, h.1]
    by_cases c : i < r.length
    · rw [if_pos c, if_pos (idx_lt c hjl)]
      exact h.2.2 i j kd c hj
    · rw [if_neg c, if_neg (by
        have := Nat.mul_le_mul_right ks.length (Nat.le_of_not_lt c)
        omega)]
      have e : i * ks.length + j - r.length * ks.length = (i - r.length) * ks.length + j := by
        have := Nat.mul_le_mul_right ks.length (Nat.le_of_not_lt c)
        rw [Nat.sub_mul]; omega
      rw [e]
      exact k.2.2 _ j kd (by omega) hj
theorem ValRows.at {vs : List Value} {rows : List D} {cur : Array Value} {off : Nat} (h : ValRows K M ks vs rows) (hs : off + vs.length ≤ cur.size) (hg : ∀ q, q < vs.length → cur[off + q]? = vs[q]?) : RowsAt K M ks cur off rows := by
  refine ⟨by rw [← h.1]; exact hs, h.2.1, fun i j kd hi hj => ?_⟩
  have hjl : j < ks.length := (List.getElem?_eq_some_iff.1 hj).1
  have := h.2.2 i j kd hi hj
  have hq : i * ks.length + j < vs.length := by rw [h.1]; exact idx_lt hi hjl
  have e : cur.getD (off + i * ks.length + j) Go.undef = vs.getD (i * ks.length + j) Go.undef := by
    simp only [Array.getD_eq_getD_getElem?, List.getD_eq_getElem?_getD]
    rw [Nat.add_assoc, hg _ hq]
  rw [e]; exact this
theorem RowsAt.vals {rows : List D} {cur : Array Value} {off : Nat} (h : RowsAt K M ks cur off rows) : ValRows K M ks ((cur.toList.drop off).take (rows.length * ks.length)) rows := by
  refine ⟨by have := h.1; simp; omega, h.2.1, fun i j kd hi hj => ?_⟩
  have hjl : j < ks.length := (List.getElem?_eq_some_iff.1 hj).1
  have := h.2.2 i j kd hi hj
  have e : ((cur.toList.drop off).take (rows.length * ks.length)).getD (i * ks.length + j) Go.undef = cur.getD (off + i * ks.length + j) Go.undef := by
    simp only [Array.getD_eq_getD_getElem?, List.getD_eq_getElem?_getD]
    rw [List.getElem?_take, if_pos (idx_lt hi hjl), List.getElem?_drop, Array.getElem?_toList, Nat.add_assoc]
  rw [e]; exact this
theorem ValRows.mono {N : Nat → Option (Array Value)} (hle : ∀ k a, M k = some a → N k = some a) {vs : List Value} {rows : List D} (h : ValRows K M ks vs rows) : ValRows K N ks vs rows :=
  ⟨h.1, h.2.1, fun i j kd a b => (h.2.2 i j kd a b).mono hle⟩
end

section
variable {ρ : Ren}
theorem rowSE_ok : ∀ (ks : List Kd) (l : List AV) (vs : List Value) (r : SE), rowSE ks l = some r → VL ρ l vs → (evalD U.V r).cells.length = ks.length ∧ vs.length = ks.length ∧ ∀ j kd, ks[j]? = some kd → DV U.K ρ.imm kd (vs.getD j Go.undef) ((evalD U.V r).cells.getD j default)
  | [], [], vs, r, h, hv => by
    simp only [rowSE, Option.some.injEq] at h
    subst h
    have := hv.nil_inv
    subst this
    exact ⟨rfl, rfl, fun j kd hj => by simp at hj⟩
  | k :: ks, a :: l, vs, r, h, hv => by
    obtain ⟨v, vr, rfl, ha, hr⟩ := hv.cons_inv
    simp only [rowSE] at h
    split at h
    · rename_i x y hx hy
      cases h
      obtain ⟨h1, h2, h3⟩ := rowSE_ok ks l vr y hy hr
      have ec : (evalD U.V (.rcons x y)).cells = evalD U.V x :: (evalD U.V y).cells := rfl
      rw [ec]
      refine ⟨by simp [h1], by simp [h2], fun j kd hj => ?_⟩
      cases j with
      | zero =>
        simp only [List.getElem?_cons_zero, Option.some.injEq] at hj
        subst hj
        exact toSE_ok ha hx
      | succ j =>
        simp only [List.getElem?_cons_succ] at hj
        exact h3 j kd hj
    · cases h
  | [], _ :: _, _, _, h, _ => by cases h
  | _ :: _, [], _, _, h, _ => by cases h
theorem ValRows.one {ks : List Kd} {vs : List Value} {r : D} (h1 : r.cells.length = ks.length) (h2 : vs.length = ks.length) (h3 : ∀ j kd, ks[j]? = some kd → DV U.K ρ.imm kd (vs.getD j Go.undef) (r.cells.getD j default)) : ValRows U.K ρ.imm ks vs [r] := by
  refine ⟨by simp [h2], fun i hi => ?_, fun i j kd hi hj => ?_⟩
  · have : i = 0 := by simpa using hi
    subst this; exact h1
  · have : i = 0 := by simpa using hi
    subst this
    simpa using h3 j kd hj
theorem rowsSE_ok {ks : List Kd} : ∀ (n : Nat) (y y' : SE) (l : List AV) (vs : List Value), rowsSE ks n y l = some y' → VL ρ l vs → ∃ rs : List D, rs.length = n ∧ (evalD U.V y').rows = (evalD U.V y).rows ++ rs ∧ ValRows U.K ρ.imm ks vs rs
  | 0, y, y', [], vs, h, hv => by
    simp only [rowsSE, Option.some.injEq] at h
    subst h
    have := hv.nil_inv
    subst this
    exact ⟨[], rfl, by simp, .nil⟩
  | 0, y, y', _ :: _, vs, h, hv => by cases h
  | n + 1, y, y', l, vs, h, hv => by
    simp only [rowsSE] at h
    split at h
    · rename_i r hr
      obtain ⟨h1, h2, h3⟩ := rowSE_ok ks _ (vs.take ks.length) r hr (hv.take _)
      obtain ⟨rs, q1, q2, q3⟩ := rowsSE_ok n _ y' _ (vs.drop ks.length) h (hv.drop _)
      refine ⟨evalD U.V r :: rs, by simp [q1], ?_, ?_⟩
      · rw [q2]
        show ((evalD U.V y).rows ++ [evalD U.V r]) ++ rs = _
        simp
      · have := (ValRows.one h1 h2 h3).append q3
        simpa using this
    · cases h

variable {E : Env} (hE : OK E) {h : AHeap} {w : World}
include hE

/-- the rows of a slice of known cells -/
theorem cellsRows {e : TypeId} {ks : List Kd} {b off n es : Nat} {l : List AV} {sv : Value} (hr : HR ρ h.blk.get w) (hx : VR ρ (.slice b off n es) sv) (hl : loadN h b off (n * es) = some l) :
    ∃ vs, VL ρ l vs ∧ vs.length = n * es ∧ ((n = 0 ∧ ∃ a, sv = .slice (some a) 0 0) ∨ ∃ base cur et fz cap sz c, ρ b = some base ∧ h.blk.get b = some (.cells sz c) ∧ sv = .slice (some ⟨base.cb, base.co + off, none⟩) n cap ∧ n ≤ cap ∧ base.co + off + cap * es ≤ base.csz ∧ w.heap[base.cb]? = some (.cells cur et fz) ∧ cur.size = base.csz ∧ (fz.1 = fz.2 ∨ base.csz ≤ fz.1) ∧
      ∀ q, q < vs.length → cur[base.co + off + q]? = vs[q]?) := by
  cases hx with
  | slice _ _ _ _ cap base hb hc hz =>
    unfold loadN at hl
    split at hl
    · rename_i sz c hg
      split at hl
      · rename_i hle
        obtain ⟨vs, q1, q2, q3⟩ := hr.loadCells E.P hb hg (bleT hle) hl
        obtain ⟨cur, et, fz, r1, r2, r3, r4, r5⟩ := hr.blk b base _ hb hg
        have hlen : vs.length = n * es := by rw [← q1.1]; exact (T.range_spec c _ _ _ hl).1
        refine ⟨vs, q1, hlen, .inr ⟨base, cur, et, fz, cap, sz, c, hb, hg, rfl, hc, hz, r1, r2, r4, fun q hq => ?_⟩⟩
        have hv : vs[q]? = some vs[q] := by simp [hq]
        have := q3 q _ hv
        rw [hv]
        simpa [World.cell?, r1] using this
      · cases hl
    · cases hl
  | sliceEnd _ _ _ a =>
    unfold loadN at hl
    split at hl
    · rename_i sz c hg
      split at hl
      · have e0 : 0 * es = 0 := by simp
        rw [e0] at hl
        simp only [T.range, Option.some.injEq] at hl
        subst hl
        exact ⟨[], VL.nil ρ, by simp, .inl ⟨rfl, a, rfl⟩⟩
      · cases hl
    · cases hl

/-- what the source of an append holds -/
theorem srcD_ok (hr : HR ρ h.blk.get w) {t' e e' : TypeId} {inf : TypeInfo} {ks : List Kd} (hk : E.kinds e = some ks) (hsz : ks.length = inf.size) (ht' : E.P.underlying t' = some (.slice e')) {y y' m : SE} {x : AV} {xv : Value} (hx : VR ρ x xv) (hs : srcD e ks h y x = some (y', m)) :
    ∃ rs nv, (evalD U.V y').rows = (evalD U.V y).rows ++ rs ∧ evalI U.V m = (rs.length : Nat) ∧ ValRows U.K ρ.imm ks nv rs ∧ Srce E.P w t' e inf xv rs.length nv := by
  have hk2 : U.K e = some ks := by rw [hE.kd, ← hE.ke]; exact hk
  have none_ : ∀ a : Option Addr, Srce E.P w t' e inf (.slice a 0 0) 0 [] := by
    intro a
    refine .cells _ ht' (.inl ⟨e', rfl⟩) (by simp [Builtin.lenOf]) (fun w' _ => ?_)
    cases a with
    | none => simp [Builtin.firstCells]
    | some a => simp [Builtin.firstCells, loadCells, loadCellsFrom]
  unfold srcD at hs
  split at hs
  · cases hs; cases hx
    exact ⟨[], [], by simp, rfl, .nil, none_ none⟩
  · cases hs; cases hx
    exact ⟨[], [], by simp, rfl, .nil, none_ _⟩
  · rename_i e1 x'
    split at hs
    · rename_i hc
      cases hs
      have := beqT hc
      subst this
      cases hx with
      | dat _ _ a n c hd =>
        obtain ⟨_, _, _, q1, q2⟩ := hd.slice_inv
        cases q1
        have er : (evalD U.V (.cat y x')).rows = (evalD U.V y).rows ++ (evalD U.V x').rows := rfl
        by_cases hn : n = 0
        · subst hn
          have e0 : (evalD U.V x').rows = [] := List.eq_nil_of_length_eq_zero q2
          refine ⟨[], [], by rw [er, e0], by rw [evalI_lenL, e0], .nil, ?_⟩
          refine .cells _ ht' (.inl ⟨e', rfl⟩) (by simp [Builtin.lenOf]) (fun w' _ => ?_)
          cases a with
          | none => simp [Builtin.firstCells]
          | some a => simp [Builtin.firstCells, loadCells, loadCellsFrom]
        · obtain ⟨b, o, rfl, hcap⟩ := hd.at (by omega)
          generalize hdd : evalD U.V x' = d at hd
          cases hd with
          | slc _ _ _ _ _ _ ks' arr hk' ha hn' hc' h1 hin hrow hv =>
            rw [hk2] at hk'; cases hk'
            obtain ⟨et, fz, hw⟩ := hr.imm b arr ha
            have hra : RowsAt U.K ρ.imm ks arr o d.rows := ⟨by rw [hn']; exact hin, fun i hi => hrow i (by omega), fun i j kd hi hj => hv i j kd (by omega) hj⟩
            refine ⟨d.rows, _, by rw [er, hdd], by rw [evalI_lenL, hdd], hra.vals, ?_⟩
            rw [hn']
            refine .cells _ ht' (.inl ⟨e', rfl⟩) (by simp [Builtin.lenOf]) (fun w' hw' => ?_)
            simp only [Builtin.firstCells, ← hsz]
            exact run_loadCells_raw E.P w' b o (n * ks.length) arr et fz (by rw [hw']; exact hw) hin
          | empty => omega
    · cases hs
  · rename_i b es n nl
    split at hs
    · rename_i e1 z hes hb
      split at hs
      · rename_i hc
        cases hs
        obtain ⟨c1, c2⟩ := andT hc
        have := beqT c1
        subst this
        have := beqT hes
        subst this
        have hx := aslLen_ok c2 hx
        clear c2
        have er : (evalD U.V (.cat y z)).rows = (evalD U.V y).rows ++ (evalD U.V z).rows := rfl
        cases hx with
        | asl _ _ _ _ cap base hρ h0 hcap hz hnl =>
          obtain ⟨ks', cur, et, fz, b1, b2, b3, b4, b5⟩ := hr.blk b base _ hρ hb
          rw [hk2] at b1; cases b1
          refine ⟨(evalD U.V z).rows, _, er, evalI_lenL, b5.vals, ?_⟩
          have e2 : (evalI U.V (.lenL z)).toNat = (evalD U.V z).rows.length := by rw [evalI_lenL]; simp
          rw [e2]
          refine .cells _ ht' (.inl ⟨e', rfl⟩) (by simp [Builtin.lenOf]) (fun w' hw' => ?_)
          simp only [Builtin.firstCells, ← hsz]
          exact run_loadCells_raw E.P w' base.cb base.co _ cur et fz (by rw [hw']; exact b2) b5.1
        | aslEnd _ _ _ _ a h0 hnl =>
          rw [evalI_lenL] at h0
          have e0 : (evalD U.V z).rows = [] := List.eq_nil_of_length_eq_zero (by omega)
          exact ⟨[], [], by rw [er, e0], by rw [evalI_lenL, e0], .nil, none_ a⟩
      · cases hs
    · cases hs
  · rename_i b off n es
    split at hs
    · rename_i hes
      split at hs
      · rename_i l hl
        split at hs
        · rename_i y1 hy
          cases hs
          have := beqT hes
          subst this
          obtain ⟨vs, v1, v2, v3⟩ := cellsRows hE (e := e) (ks := ks) hr hx hl
          obtain ⟨rs, q1, q2, q3⟩ := rowsSE_ok n y y' l vs hy v1
          refine ⟨rs, vs, q2, by rw [q1]; rfl, q3, ?_⟩
          rw [q1]
          rcases v3 with ⟨rfl, a, rfl⟩ | ⟨base, cur, et, fz, cap, sz, c, p1, p2, rfl, p4, p5, p6, p7, p8, p9⟩
          · have : vs = [] := List.eq_nil_of_length_eq_zero (by simpa using v2)
            subst this
            exact none_ (some a)
          · refine .cells _ ht' (.inl ⟨e', rfl⟩) (by simp [Builtin.lenOf]) (fun w' hw' => ?_)
            have hle : n * ks.length ≤ cap * ks.length := Nat.mul_le_mul_right _ p4
            have := run_loadCells_raw E.P w' base.cb (base.co + off) (n * ks.length) cur et fz (by rw [hw']; exact p6) (by rw [p7]; omega)
            simp only [Builtin.firstCells, ← hsz, this]
            congr 2
            apply List.ext_getElem?
            intro q
            rw [List.getElem?_take]
            by_cases hq : q < n * ks.length
            · rw [if_pos hq, List.getElem?_drop, Array.getElem?_toList, p9 q (by omega)]
            · rw [if_neg hq, List.getElem?_eq_none (by omega)]
        · cases hs
      · cases hs
    · cases hs
  · cases hs

/-- what stands in the slice that is appended to: no capacity, or a block of ours -/
inductive BaseOK (ρ : Ren) (h : AHeap) (w : World) (ks : List Kd) (ys nls : SE) : Option Nat → Value → Prop
  | none (b : Option Nat) (a : Option Addr) (hy : (evalD U.V ys).rows = []) (hn : a.isNone = evalB U.V nls) : BaseOK ρ h w ks ys nls b (.slice a 0 0)
  | blk (b off cap : Nat) (base : Base) (cur : Array Value) (et : TypeId) (fz : Nat × Nat) (hb : ρ b = some base) (hl : h.blk.get b ≠ .none) (hc : (evalD U.V ys).rows.length ≤ cap) (hz : base.co + off + cap * ks.length ≤ base.csz)
      (hw : w.heap[base.cb]? = some (.cells cur et fz)) (hs : cur.size = base.csz) (hf : fz.1 = fz.2 ∨ base.csz ≤ fz.1) (hv : RowsAt U.K ρ.imm ks cur (base.co + off) (evalD U.V ys).rows) (hn : evalB U.V nls = false) :
      BaseOK ρ h w ks ys nls (some b) (.slice (some ⟨base.cb, base.co + off, .none⟩) (evalD U.V ys).rows.length cap)

theorem baseD_ok (hr : HR ρ h.blk.get w) {e : TypeId} {ks : List Kd} (hk : E.kinds e = some ks) {s : AV} {sv : Value} {ys nls : SE} {bs : Option Nat} (hx : VR ρ s sv) (hb : baseD e ks h s = some (ys, nls, bs)) : BaseOK ρ h w ks ys nls bs sv := by
  have hk2 : U.K e = some ks := by rw [hE.kd, ← hE.ke]; exact hk
  unfold baseD at hb
  split at hb
  · cases hb; cases hx
    exact .none _ _ rfl rfl
  · cases hb; cases hx
    rename_i a hn
    exact .none _ _ rfl hn
  · rename_i b off n es
    split at hb
    · rename_i hes
      split at hb
      · rename_i l hl
        split at hb
        · rename_i y hy
          cases hb
          have := beqT hes
          subst this
          obtain ⟨vs, v1, v2, v3⟩ := cellsRows hE (e := e) (ks := ks) hr hx hl
          obtain ⟨rs, q1, q2, q3⟩ := rowsSE_ok n .emptyL ys l vs hy v1
          have er : (evalD U.V ys).rows = rs := by rw [q2]; rfl
          rcases v3 with ⟨rfl, a, rfl⟩ | ⟨base, cur, et, fz, cap, sz, c, p1, p2, rfl, p4, p5, p6, p7, p8, p9⟩
          · exact .none _ _ (by rw [er]; exact List.eq_nil_of_length_eq_zero q1) rfl
          · have hle : n * ks.length ≤ cap * ks.length := Nat.mul_le_mul_right _ p4
            have := BaseOK.blk (ρ := ρ) (h := h) (w := w) (ks := ks) (ys := ys) (nls := .bc false) b off cap base cur et fz p1 (by rw [p2]; exact Option.some_ne_none _) (by rw [er, q1]; exact p4) p5 p6 p7 p8
              (by rw [er]; exact q3.at (by rw [v2, p7]; omega) p9) rfl
            rw [er, q1] at this
            exact this
        · cases hb
      · cases hb
    · cases hb
  · rename_i b es n nl
    split at hb
    · rename_i e1 z hes hbk
      split at hb
      · rename_i hc
        cases hb
        obtain ⟨c1, c2⟩ := andT hc
        have := beqT c1
        subst this
        have := beqT hes
        subst this
        have hx := aslLen_ok c2 hx
        clear c2
        cases hx with
        | asl _ _ _ _ cap base hρ h0 hcap hz hnl =>
          obtain ⟨ks', cur, et, fz, b1, b2, b3, b4, b5⟩ := hr.blk b base _ hρ hbk
          rw [hk2] at b1; cases b1
          have e2 : (evalI U.V (.lenL ys)).toNat = (evalD U.V ys).rows.length := by rw [evalI_lenL]; simp
          rw [e2] at hcap ⊢
          exact BaseOK.blk (ρ := ρ) (h := h) (w := w) (ks := ks) b 0 cap base cur et fz hρ (by rw [hbk]; exact Option.some_ne_none _) hcap (by simpa using hz) b2 b3 b4 (by simpa using b5) hnl
        | aslEnd _ _ _ _ a h0 hnl =>
          rw [evalI_lenL] at h0
          exact .none _ _ (List.eq_nil_of_length_eq_zero (by omega)) hnl
      · cases hb
    · cases hb
  · cases hb

omit hE in
/-- a block that is known but lies nowhere -/
theorem HR.phantom (hr : HR ρ h.blk.get w) (hf : ρ h.nx = none) (x : ABlk) : HR ρ (h.new x).blk.get w ∧ Ext ρ ρ h (h.new x) w w := by
  have live : ∀ b base, ρ b = some base → (h.new x).blk.get b = h.blk.get b := by
    intro b base hb
    simp only [AHeap.new, T.get_set]
    rw [if_neg (by rintro rfl; rw [hf] at hb; cases hb)]
  refine ⟨⟨hr.lt, fun b base y hb hy => hr.blk b base y hb (by rw [← live b base hb]; exact hy), fun b b' base base' hne hb hb' h1 h2 => hr.apart b b' base base' hne hb hb' (by rw [← live b base hb]; exact h1) (by rw [← live b' base' hb']; exact h2), hr.imm, fun k arr b base hk hb hl => hr.off k arr b base hk hb (by rw [← live b base hb]; exact hl)⟩,
    ⟨Ren.le_refl ρ, Nat.le_succ _, fun _ _ e => .inl e, Calm.refl w, fun _ _ _ => rfl, ⟨[], rfl, fun b _ hb => ?_⟩, fun b hb => ?_, fun _ _ e => .inl e⟩⟩
  · simp only [AHeap.new, T.get_set]
    simp only [AHeap.new] at hb
    rw [if_neg (by omega)]
  · simp only [AHeap.new, T.get_set] at hb ⊢
    by_cases e : h.nx = b
    · exact .inr ⟨by omega, by omega⟩
    · rw [if_neg e] at hb; exact .inl hb

omit hE in
theorem strikeO_ok (hr : HR ρ h.blk.get w) (o : Option Nat) : HR ρ (strikeO h o).blk.get w ∧ Ext ρ ρ h (strikeO h o) w w ∧ (strikeO h o).nx = h.nx := by
  cases o with
  | none => exact ⟨hr, Ext.refl _ _ _, rfl⟩
  | some b => obtain ⟨p1, p2⟩ := hr.strike b; exact ⟨p1, p2, rfl⟩

theorem appendB_ok (hr : HR ρ h.blk.get w) {t t' ty : TypeId} {s x a : AV} {sv xv : Value} {h' : AHeap} (hs : VR ρ s sv) (hx : VR ρ x xv) (ha : appendB E t t' s x h = some (a, h')) (hf : Free ρ h.nx h'.nx)
    (hA : ∀ a h', appendA E t t' s x h = some (a, h') → Free ρ h.nx h'.nx → Leaves1 E ρ h h' w (Builtin.append_ #[t, t'] ty #[sv, xv]) a) :
    Leaves1 E ρ h h' w (Builtin.append_ #[t, t'] ty #[sv, xv]) a := by
  unfold appendB at ha
  split at ha
  · exact hA a h' ha hf
  · split at ha
    · rename_i e e' hd hd'
      split at ha
      · rename_i inf ks z hi hk hz
        split at ha
        · rename_i hc
          split at ha
          · rename_i ys nls bs hbase
            split at ha
            · rename_i y m hsrc
              split at ha
              · rename_i hb
                cases ha
                obtain ⟨c12, c3⟩ := andT hc
                obtain ⟨c1, c2⟩ := andT c12
                have hsz := beqT c1
                have hzl := beqT c2
                have hby := bleT c3
                have hinf := hE.ty e inf hi
                have hk2 : U.K e = some ks := by rw [hE.kd, ← hE.ke]; exact hk
                obtain ⟨b1, b2⟩ := andT hb
                have b1 := decT_ok b1
                have b2 := decT_ok b2
                rw [evalB_lss, decide_eq_true_eq, evalI_lenL, evalI_c] at b1
                rw [evalB_lss, decide_eq_true_eq, evalI_c] at b2
                have ht := hE.und hd
                have ht' := hE.und hd'
                obtain ⟨rs, nv, s1, s2, s3, s4⟩ := srcD_ok hE hr hk hsz ht' hx hsrc
                have hB := baseD_ok hE hr hk hs hbase
                obtain ⟨i', zv, i1, i2, i3⟩ := zero_has hz
                rw [hi] at i1; cases i1
                have hzc : zv.cells.size = inf.size := by
                  have := ((ofValue_VR ρ i3).cells (ofValue_top i3)).1
                  simp at this; omega
                have hnvl : nv.length = rs.length * inf.size := by rw [s3.1, hsz]
                have hrl : rs.length < 1048576 := by omega
                have hyl : evalI U.V (.lenL y) = (((evalD U.V ys).rows.length + rs.length : Nat) : Int) := by rw [evalI_lenL, s1]; simp
                have hnl : evalB U.V (.and nls (.eql m (.c 0))) = (evalB U.V nls && (evalI U.V m == 0)) := rfl
                have hfree : ρ h.nx = none := hf h.nx (Nat.le_refl _) (by cases bs <;> simp [AHeap.new, strikeO, AHeap.strike])
                obtain ⟨o1, o2, o3⟩ := strikeO_ok hr bs
                -- a new row
                have grow : ∀ (base : Option Addr) (sLen cap : Nat) (ov : List Value), sv = .slice base sLen cap → sLen = (evalD U.V ys).rows.length → sLen ≤ cap → cap < sLen + rs.length → ValRows U.K ρ.imm ks ov (evalD U.V ys).rows →
                    (∀ w' : World, w'.heap = w.heap → (Builtin.firstCells inf.size sLen (.slice base sLen cap)).run E.P w' = .ok ov.toArray w') →
                    Leaves1 E ρ h ((strikeO h bs).new (.arr e y)) w (Builtin.append_ #[t, t'] ty #[sv, xv]) (.asl h.nx inf.size (.lenL y) (.and nls (.eql m (.c 0)))) := by
                  intro base sLen cap ov hsv hsl hle hgr hov hfc
                  subst hsv
                  have hb1 : (sLen + rs.length) * inf.bytes ≤ 2097152 * 1024 := Nat.mul_le_mul (by omega) hby
                  obtain ⟨cap', k1, k2⟩ := append_grow t t' ty e inf ht hinf zv i2 xv rs.length nv s4 base sLen cap hgr (by omega) (by omega) ov.toArray hfc
                  generalize hzz : Builtin.zeroCells zv.cells (cap' - (sLen + rs.length)) = zs at k2
                  have hzsz : zs.size = (cap' - (sLen + rs.length)) * inf.size := by rw [← hzz]; simp [Builtin.zeroCells, hzc]
                  have hasz : (ov.toArray ++ nv.toArray ++ zs).size = cap' * inf.size := by
                    have hovl : ov.length = sLen * inf.size := by rw [hov.1, hsz, hsl]
                    simp only [Array.size_append, List.size_toArray, hovl, hnvl, hzsz]
                    rw [← Nat.add_mul, ← Nat.add_mul]
                    congr 1; omega
                  have hvals := hov.append s3
                  rw [← s1] at hvals
                  have hrows : RowsAt U.K ρ.imm ks (ov.toArray ++ nv.toArray ++ zs) 0 (evalD U.V y).rows := hvals.at (by simp) (fun q hq => by
                    have hq' : q < ov.length + nv.length := by simpa using hq
                    rw [Nat.zero_add, Array.getElem?_append_left (by simpa using hq')]
                    simp only [List.append_toArray, List.getElem?_toArray])
                  have hr1 : HR ρ (strikeO h bs).blk.get { w with drawn := w.drawn + 1 } := o1.same rfl
                  have hf1 : ρ (strikeO h bs).nx = none := by rw [o3]; exact hfree
                  obtain ⟨p1, p2⟩ := hr1.new hf1 (.arr e y) (.cells (ov.toArray ++ nv.toArray ++ zs) e) (cap' * inf.size) ⟨ks, _, e, _, hk2, rfl, hasz, .inl rfl, hrows⟩ { w with drawn := w.drawn + 1, heap := w.heap.push (.cells (ov.toArray ++ nv.toArray ++ zs) e) } rfl rfl rfl rfl
                  refine ⟨_, _, _, k2, ?_, p1, (o2.trans (Ext.drawn p2 rfl rfl rfl rfl) hf)⟩
                  rw [o3]
                  have hNl : (evalI U.V (.lenL y)).toNat = sLen + rs.length := by rw [hyl, hsl]; exact Int.toNat_natCast _
                  have := VR.asl (ρ := ρ.upd h.nx ⟨w.heap.size, 0, cap' * inf.size⟩) h.nx inf.size (.lenL y) (.and nls (.eql m (.c 0))) cap' ⟨w.heap.size, 0, cap' * inf.size⟩ (Ren.upd_same _ _ _) (by rw [hyl]; exact Int.natCast_nonneg _) (by rw [hNl]; exact k1) (by show 0 + cap' * inf.size ≤ cap' * inf.size; rw [Nat.zero_add]; exact Nat.le_refl _) (by
                    rw [hnl, s2]
                    have : ((rs.length : Int) == 0) = false := by simp; intro e; rw [e] at hgr; simp at hgr; omega
                    rw [this, Bool.and_false])
                  rw [hNl] at this
                  exact this
                cases hB with
                | none _ ad hy hn =>
                  have hy0 : (evalD U.V ys).rows.length = 0 := by rw [hy]; rfl
                  by_cases hm : rs.length = 0
                  · -- nothing is appended to nothing
                    have hnv : nv = [] := List.eq_nil_of_length_eq_zero (by rw [hnvl, hm]; simp)
                    subst hnv
                    obtain ⟨p1, p2⟩ := HR.phantom o1 (by rw [o3]; exact hfree) (.arr e y)
                    refine ⟨ρ, .slice ad 0 0, w, ?_, .aslEnd _ _ _ _ _ (by rw [hyl, hy0, hm]; rfl) ?_, p1, o2.trans p2 hf⟩
                    · rw [append_room t t' ty e inf ht hinf xv rs.length [] s4 ad 0 0 (by omega)]
                      cases ad with
                      | none => simp [hm]
                      | some ad => simp [storeCells, hm]
                    · rw [hnl, s2, hm, hn]; simp
                  · exact grow ad 0 0 [] rfl hy0.symm (Nat.le_refl _) (by omega) (by rw [hy]; exact .nil) (fun w' _ => by
                      cases ad with
                      | none => simp [Builtin.firstCells]
                      | some ad => simp [Builtin.firstCells, loadCells, loadCellsFrom])
                | blk b off cap base cur et fz hb hl hcap hzz hw hcs hfz hv hn =>
                  by_cases hroom : (evalD U.V ys).rows.length + rs.length ≤ cap
                  · -- within the capacity
                    have hfit : ((evalD U.V ys).rows.length + rs.length) * ks.length ≤ cap * ks.length := Nat.mul_le_mul_right _ hroom
                    rw [Nat.add_mul] at hfit
                    have hone : ∀ v ∈ nv, v.oneCell' = true := by
                      intro v hvm
                      obtain ⟨q, hq, rfl⟩ := List.getElem_of_mem hvm
                      have hpos : 0 < ks.length := by
                        rcases Nat.eq_zero_or_pos ks.length with h0 | h0
                        · rw [s3.1, h0] at hq; simp at hq
                        · exact h0
                      have hqd : q / ks.length < rs.length := by
                        rw [s3.1] at hq
                        exact Nat.div_lt_of_lt_mul (by rw [Nat.mul_comm]; exact hq)
                      have hqm : q % ks.length < ks.length := Nat.mod_lt _ hpos
                      have := s3.2.2 (q / ks.length) (q % ks.length) (ks[q % ks.length]) hqd (by simp [hqm])
                      have e1 : q / ks.length * ks.length + q % ks.length = q := by rw [Nat.mul_comm]; exact Nat.div_add_mod _ _
                      rw [e1] at this
                      have e2 : nv.getD q Go.undef = nv[q] := by simp [List.getD_eq_getElem?_getD, hq]
                      rw [e2] at this
                      generalize nv[q] = v0 at this
                      generalize ks[q % ks.length] = kq at this
                      cases this <;> rfl
                    obtain ⟨w', cur', q1, q2, q3, q4, q5, q6, q7, q8, q9⟩ := run_storeCells E.P base.cb (base.co + off + (evalD U.V ys).rows.length * ks.length) et fz nv 0 w cur hw (by rw [s3.1, hcs]; omega) (by rw [hcs]; exact hfz) hone
                    have hrows : RowsAt U.K ρ.imm ks cur' (base.co + off) (evalD U.V y).rows := by
                      have hvals := hv.vals.append s3
                      rw [← s1] at hvals
                      have hl1 : ((cur.toList.drop (base.co + off)).take ((evalD U.V ys).rows.length * ks.length)).length = (evalD U.V ys).rows.length * ks.length := by
                        have := hv.1; simp; omega
                      refine hvals.at (by rw [List.length_append, hl1, s3.1, q3, hcs]; omega) (fun q hq => ?_)
                      rw [List.length_append, hl1] at hq
                      rw [q4]
                      simp only [Nat.add_zero]
                      by_cases hq1 : q < (evalD U.V ys).rows.length * ks.length
                      · rw [if_neg (by omega), List.getElem?_append_left (by rw [hl1]; exact hq1), List.getElem?_take, if_pos hq1, List.getElem?_drop, Array.getElem?_toList]
                      · rw [if_pos (by omega), List.getElem?_append_right (by rw [hl1]; omega), hl1]
                        congr 1; omega
                    obtain ⟨p1, p2⟩ := hr.move hb hl hfree (base' := ⟨base.cb, base.co + off, base.csz⟩) rfl (.arr e y) w' ⟨ks, cur', et, fz, hk2, q2, by rw [q3, hcs], hfz, hrows⟩ q5 q6 q7 q8 q9
                    refine ⟨_, .slice (some ⟨base.cb, base.co + off, none⟩) ((evalD U.V ys).rows.length + rs.length) cap, w', ?_, ?_, p1, p2⟩
                    · rw [append_room t t' ty e inf ht hinf xv rs.length nv s4 _ _ cap hroom]
                      simp only [add_at, ← hsz]
                      rw [q1]
                      rfl
                    · have hNl : (evalI U.V (.lenL y)).toNat = (evalD U.V ys).rows.length + rs.length := by rw [hyl]; exact Int.toNat_natCast _
                      have := VR.asl (ρ := ρ.upd h.nx ⟨base.cb, base.co + off, base.csz⟩) h.nx inf.size (.lenL y) (.and nls (.eql m (.c 0))) cap ⟨base.cb, base.co + off, base.csz⟩ (Ren.upd_same _ _ _) (by rw [hyl]; omega) (by rw [hNl]; exact hroom) (by rw [← hsz]; exact hzz) (by rw [hnl, hn]; rfl)
                      rw [hNl] at this
                      exact this
                  · have hovl : ((cur.toList.drop (base.co + off)).take ((evalD U.V ys).rows.length * ks.length)).length = (evalD U.V ys).rows.length * ks.length := by
                      have := hv.1; simp; omega
                    exact grow (some ⟨base.cb, base.co + off, none⟩) _ cap _ rfl rfl hcap (by omega) hv.vals (fun w' hw' => by
                      simp only [Builtin.firstCells, ← hsz]
                      exact run_loadCells_raw E.P w' base.cb (base.co + off) _ cur et fz (by rw [hw']; exact hw) hv.1)
              · cases ha
            · cases ha
          · cases ha
        · cases ha
      · cases ha
    · cases ha
end
end Go.AE

/-! AeDat4 -/
namespace Go.AE
variable [U : Unk]
set_option linter.unusedVariables false

section
variable {E : Env} {ρ : Ren} {w : World} (hE : OK E)
include hE
theorem aeq_bool {t : TypeId} (hd : E.desc t = some .bool) (n : Nat) (a b : Bool) : aeq E (n + 1) t (.bool a) (.bool b) = some (a == b) := by
  simp only [aeq, hd]
theorem boolEq_run {op : BinOp} {t : TypeId} {ox oy : Operand} (hd : E.desc t = some .bool) (a b q : Bool) (hq : negIf op (a == b) = some q) :
    (do eqGuard op t ox oy (.bool a) (.bool b); binOp op t (.bool a) (.bool b) : Sem Value).run E.P w = .ok (.bool q) w := by
  have hb : binA E op t (.bool a) (.bool b) = some (.bool q) := by
    have h1 := aeq_bool hE hd 9999 a b
    cases op <;> simp only [negIf, reduceCtorEq, Option.some.injEq] at hq
    · subst hq; show (aeq E 10000 t _ _).map AV.bool = _; rw [h1]; rfl
    · subst hq; show ((aeq E 10000 t _ _).map fun b => AV.bool (!b)) = _; rw [h1]; rfl
  obtain ⟨v, q1, q2⟩ := binA_ok (ρ := Ren.empty) (w := w) (ox := ox) (oy := oy) hE (.bool a) (.bool b) hb
  cases q2
  exact q1
omit hE in
theorem boolV_ok {x : AV} {xv : Value} (hx : VR ρ x xv) : (∀ b, boolV x = some (.inl b) → xv = .bool b) ∧ (∀ p e, boolV x = some (.inr (p, e)) → xv = .bool (evalB U.V e == p)) := by
  cases x <;> simp only [boolV, reduceCtorEq, false_imp_iff, implies_true, and_self]
  · rename_i b
    cases hx
    exact ⟨fun c h => (by cases h; rfl), fun p e h => (by cases h)⟩
  · rename_i p e
    cases hx
    refine ⟨fun b h => ?_, fun p' e' h => ?_⟩
    · split at h
      · rename_i c hc
        cases h
        rw [decideB_ok U.ok hc]
      · cases h
    · split at h
      · cases h
      · cases h; rfl
theorem sliceNil_run {op : BinOp} {t e : TypeId} {ox oy : Operand} (hd : E.desc t = some (.slice e)) (a : Option Addr) (n c : Nat) (q : Bool) (hq : negIf op a.isNone = some q) (h0 : a = none → n = 0 ∧ c = 0) :
    (do eqGuard op t ox oy (.slice a n c) (.slice none 0 0); binOp op t (.slice a n c) (.slice none 0 0) : Sem Value).run E.P w = .ok (.bool q) w ∧
    (do eqGuard op t ox oy (.slice none 0 0) (.slice a n c); binOp op t (.slice none 0 0) (.slice a n c) : Sem Value).run E.P w = .ok (.bool q) w := by
  have hu := hE.run_und hd w
  have g1 : (eqGuard op t ox oy (.slice a n c) (.slice none 0 0)).run E.P w = .ok () w := eqGuard_ok (by simp) (by simp)
  have g2 : (eqGuard op t ox oy (.slice none 0 0) (.slice a n c)).run E.P w = .ok () w := eqGuard_ok (by simp) (by simp)
  obtain ⟨b1, b2⟩ := binOp_eql t (.slice a n c) (.slice none 0 0) (by simp) (by simp) (by simp) (by simp)
  obtain ⟨b3, b4⟩ := binOp_eql t (.slice none 0 0) (.slice a n c) (by simp) (by simp) (by simp) (by simp)
  have f1 : ∀ m : Nat, (Op.equalIn (m + 1) t (.slice a n c) (.slice none 0 0)).run E.P w = .ok a.isNone w := by
    intro m
    cases a <;> simp [Op.equalIn, hu]
  have f2 : ∀ m : Nat, (Op.equalIn (m + 1) t (.slice none 0 0) (.slice a n c)).run E.P w = .ok a.isNone w := by
    intro m
    cases a <;> simp [Op.equalIn, hu]
  have e1 : (Op.equal t (.slice a n c) (.slice none 0 0)).run E.P w = .ok a.isNone w := f1 9999
  have e2 : (Op.equal t (.slice none 0 0) (.slice a n c)).run E.P w = .ok a.isNone w := f2 9999
  cases op <;> simp only [negIf, reduceCtorEq, Option.some.injEq] at hq
  · subst hq
    refine ⟨?_, ?_⟩
    · simp only [Sem.run_bind, g1, Result.andThen_ok, b1, e1]; rfl
    · simp only [Sem.run_bind, g2, Result.andThen_ok, b3, e2]; rfl
  · subst hq
    refine ⟨?_, ?_⟩
    · simp only [Sem.run_bind, g1, Result.andThen_ok, b2, e1]; rfl
    · simp only [Sem.run_bind, g2, Result.andThen_ok, b4, e2]; rfl
omit hE in
theorem nilV_ok {x : AV} {xv : Value} {s : SE} (hx : VR ρ x xv) (h : nilV x = some s) : ∃ a n c, xv = .slice a n c ∧ (a = none → n = 0 ∧ c = 0) ∧ evalB U.V s = a.isNone := by
  cases hx <;> simp only [nilV, reduceCtorEq, Option.some.injEq] at h <;> subst h
  · exact ⟨none, 0, 0, rfl, fun _ => ⟨rfl, rfl⟩, rfl⟩
  · exact ⟨_, _, _, rfl, fun h => (by cases h), rfl⟩
  · exact ⟨_, _, _, rfl, fun h => (by cases h), rfl⟩
  · rename_i e x a n c hd
    refine ⟨a, n, c, rfl, ?_, ?_⟩
    · rintro rfl
      cases hd; exact ⟨rfl, rfl⟩
    · have : evalB U.V (.isNil x) = (evalD U.V x).isNil := rfl
      rw [this]
      cases hd with
      | nil _ _ h1 => rw [h1]; rfl
      | empty _ _ _ _ h1 => rw [h1]; rfl
      | slc _ _ _ _ _ _ _ _ _ _ _ _ h1 => rw [h1]; rfl
  · rename_i hn
    exact ⟨_, _, _, rfl, fun h => (by cases h), by rw [hn]; rfl⟩
  · rename_i a h0 hn
    exact ⟨a, 0, 0, rfl, fun _ => ⟨rfl, rfl⟩, hn.symm⟩
  · rename_i a hn
    exact ⟨a, 0, 0, rfl, fun _ => ⟨rfl, rfl⟩, hn.symm⟩
omit hE in
theorem negIf_ok {op : BinOp} {p q : Bool} (h : negIf op p = some q) (x : Bool) : negIf op (x == p) = some (x == q) := by
  cases op <;> simp only [negIf, reduceCtorEq, Option.some.injEq] at h ⊢ <;> subst h <;> cases x <;> cases p <;> rfl
theorem eqV_ok {op : BinOp} {t : TypeId} {ox oy : Operand} {x y r : AV} {xv yv : Value} (hx : VR ρ x xv) (hy : VR ρ y yv) (hr : eqV (E.desc t) op x y = some r) :
    ∃ v, (do eqGuard op t ox oy xv yv; binOp op t xv yv : Sem Value).run E.P w = .ok v w ∧ VR ρ r v := by
  unfold eqV at hr
  split at hr
  · rename_i hd
    split at hr
    · rename_i a b h1 h2
      rw [(boolV_ok hx).1 _ h1, (boolV_ok hy).1 _ h2]
      cases hq : negIf op (a == b) with
      | none => rw [hq] at hr; cases hr
      | some q => rw [hq] at hr; cases hr; exact ⟨_, boolEq_run hE hd a b q hq, .bool q⟩
    · rename_i p e b h1 h2
      rw [(boolV_ok hx).2 _ _ h1, (boolV_ok hy).1 _ h2]
      cases hq : negIf op (p == b) with
      | none => rw [hq] at hr; cases hr
      | some q =>
        rw [hq] at hr; cases hr
        refine ⟨_, boolEq_run hE hd _ _ (evalB U.V e == q) ?_, .sb q e⟩
        have := negIf_ok hq (evalB U.V e)
        rw [← this]; congr 1
        cases evalB U.V e <;> cases p <;> cases b <;> rfl
    · rename_i b p e h1 h2
      rw [(boolV_ok hx).1 _ h1, (boolV_ok hy).2 _ _ h2]
      cases hq : negIf op (p == b) with
      | none => rw [hq] at hr; cases hr
      | some q =>
        rw [hq] at hr; cases hr
        refine ⟨_, boolEq_run hE hd _ _ (evalB U.V e == q) ?_, .sb q e⟩
        have := negIf_ok hq (evalB U.V e)
        rw [← this]; congr 1
        cases evalB U.V e <;> cases p <;> cases b <;> rfl
    · cases hr
  · rename_i e hd
    have one : ∀ {s : SE} {a : Option Addr}, evalB U.V s = a.isNone → (negIf op true).map (fun q => mkB q s) = some r → ∃ q, negIf op a.isNone = some q ∧ VR ρ r (.bool q) := by
      intro s a hs hm
      cases hq : negIf op true with
      | none => rw [hq] at hm; cases hm
      | some q =>
        rw [hq] at hm; cases hm
        have := negIf_ok hq a.isNone
        refine ⟨a.isNone == q, ?_, hs ▸ mkB_ok ρ q s⟩
        rw [← this]; congr 1; cases a.isNone <;> rfl
    split at hr
    · split at hr
      · rename_i s hs
        cases hx
        obtain ⟨a, n, c, rfl, h0, hb⟩ := nilV_ok hy hs
        obtain ⟨q, q1, q2⟩ := one hb hr
        exact ⟨_, (sliceNil_run hE hd a n c q q1 h0).2, q2⟩
      · cases hr
    · split at hr
      · rename_i s hs
        cases hy
        obtain ⟨a, n, c, rfl, h0, hb⟩ := nilV_ok hx hs
        obtain ⟨q, q1, q2⟩ := one hb hr
        exact ⟨_, (sliceNil_run hE hd a n c q q1 h0).1, q2⟩
      · cases hr
    · cases hr
  · cases hr
omit hE in
theorem maxSF_ok (P : Program) (k : IntKind) : ∀ {l : List AV} {l' : List Value} {x : SE} {a : AV}, VL ρ l l' → maxSF k x l = some a → ∃ v, (l'.foldlM Builtin.max2 (.int k (evalI U.V x))).run P w = .ok v w ∧ VR ρ a v
  | [], l', x, a, hl, h => by
    rw [hl.nil_inv]
    simp only [maxSF, Option.some.injEq] at h
    subst h
    exact ⟨_, by simp, mkI_ok ρ k x⟩
  | y :: r, l', x, a, hl, h => by
    obtain ⟨v, r', rfl, hv, hr⟩ := hl.cons_inv
    simp only [maxSF] at h
    split at h
    · rename_i k' b hb
      have ev := toI_ok hv hb
      subst ev
      split at h
      · rename_i hd
        have := decideB_ok U.ok hd
        rw [evalB_lss, decide_eq_true_eq] at this
        obtain ⟨u, q1, q2⟩ := maxSF_ok P k hr h
        refine ⟨u, ?_, q2⟩
        simp only [List.foldlM_cons, Builtin.max2, Sem.run_bind, Sem.run_pure, Result.andThen_ok]
        rw [if_pos (by omega)]; exact q1
      · rename_i hd
        have := decideB_ok U.ok hd
        rw [evalB_lss, decide_eq_false_iff_not] at this
        obtain ⟨u, q1, q2⟩ := maxSF_ok P k hr h
        refine ⟨u, ?_, q2⟩
        simp only [List.foldlM_cons, Builtin.max2, Sem.run_bind, Sem.run_pure, Result.andThen_ok]
        rw [if_neg (by omega)]; exact q1
      · cases h
    · cases h
omit hE in
theorem minSF_ok (P : Program) (k : IntKind) : ∀ {l : List AV} {l' : List Value} {x : SE} {a : AV}, VL ρ l l' → minSF k x l = some a → ∃ v, (l'.foldlM Builtin.min2 (.int k (evalI U.V x))).run P w = .ok v w ∧ VR ρ a v
  | [], l', x, a, hl, h => by
    rw [hl.nil_inv]
    simp only [minSF, Option.some.injEq] at h
    subst h
    exact ⟨_, by simp, mkI_ok ρ k x⟩
  | y :: r, l', x, a, hl, h => by
    obtain ⟨v, r', rfl, hv, hr⟩ := hl.cons_inv
    simp only [minSF] at h
    split at h
    · rename_i k' b hb
      have ev := toI_ok hv hb
      subst ev
      split at h
      · rename_i hd
        have := decideB_ok U.ok hd
        rw [evalB_lss, decide_eq_true_eq] at this
        obtain ⟨u, q1, q2⟩ := minSF_ok P k hr h
        refine ⟨u, ?_, q2⟩
        simp only [List.foldlM_cons, Builtin.min2, Sem.run_bind, Sem.run_pure, Result.andThen_ok]
        rw [if_pos (by omega)]; exact q1
      · rename_i hd
        have := decideB_ok U.ok hd
        rw [evalB_lss, decide_eq_false_iff_not] at this
        obtain ⟨u, q1, q2⟩ := minSF_ok P k hr h
        refine ⟨u, ?_, q2⟩
        simp only [List.foldlM_cons, Builtin.min2, Sem.run_bind, Sem.run_pure, Result.andThen_ok]
        rw [if_neg (by omega)]; exact q1
      · cases h
    · cases h
omit hE in
theorem maxSL_ok {ats : Array TypeId} {ty : TypeId} {args : List AV} {args' : List Value} {a : AV} (ha : VL ρ args args') (hq : maxSL args = some a) : ∃ v, (Builtin.max_ ats ty args'.toArray).run E.P w = .ok v w ∧ VR ρ a v := by
  cases args with
  | nil => cases hq
  | cons x r =>
    obtain ⟨v, r', rfl, hv, hl⟩ := ha.cons_inv
    simp only [maxSL] at hq
    split at hq
    · rename_i k e he
      have ev := toI_ok hv he
      subst ev
      obtain ⟨u, q1, q2⟩ := maxSF_ok (w := w) E.P k hl hq
      exact ⟨u, by simpa [Builtin.max_] using q1, q2⟩
    · cases hq
omit hE in
theorem minSL_ok {ats : Array TypeId} {ty : TypeId} {args : List AV} {args' : List Value} {a : AV} (ha : VL ρ args args') (hq : minSL args = some a) : ∃ v, (Builtin.min_ ats ty args'.toArray).run E.P w = .ok v w ∧ VR ρ a v := by
  cases args with
  | nil => cases hq
  | cons x r =>
    obtain ⟨v, r', rfl, hv, hl⟩ := ha.cons_inv
    simp only [minSL] at hq
    split at hq
    · rename_i k e he
      have ev := toI_ok hv he
      subst ev
      obtain ⟨u, q1, q2⟩ := minSF_ok (w := w) E.P k hl hq
      exact ⟨u, by simpa [Builtin.min_] using q1, q2⟩
    · cases hq
omit hE in
theorem unB_ok {op : UnOp} {x r : AV} {xv : Value} (hx : VR ρ x xv) (hr : unB op x = some r) : ∃ v, (Op.unary op xv).run E.P w = .ok v w ∧ VR ρ r v := by
  unfold unB at hr
  split at hr
  · rename_i k e
    cases hr
    cases hx
    refine ⟨_, by simp only [Op.unary, Op.intArith, Sem.run_pure]; rfl, ?_⟩
    have := mkI_ok ρ k (.arith .sub k (.c 0) e)
    rw [evalI_arith] at this
    simpa [intBin, evalI_c] using this
  · exact unA_ok hx hr
omit hE in
theorem repRows {ks : List Kd} {z : List AV} {r : SE} (hrow : rowSE ks z = some r) : ∀ (n : Nat) (vs : List Value), VL ρ (repeatL z n) vs → ValRows U.K ρ.imm ks vs (List.replicate n (evalD U.V r))
  | 0, vs, h => by
    have := h.nil_inv
    subst this
    exact .nil
  | n + 1, vs, h => by
    have hzl : z.length = ks.length := by
      have : ∀ (ks : List Kd) (l : List AV) (r : SE), rowSE ks l = some r → l.length = ks.length := by
        intro ks
        induction ks with
        | nil => intro l r h; cases l with | nil => rfl | cons => cases h
        | cons k ks ih =>
          intro l r h
          cases l with
          | nil => cases h
          | cons a l =>
            simp only [rowSE] at h
            split at h
            · rename_i x y hx hy
              simp [ih l y hy]
            · cases h
      exact this ks z r hrow
    have h1 := h.take z.length
    have h2 := h.drop z.length
    have e1 : (repeatL z (n + 1)).take z.length = z := by simp [repeatL]
    have e2 : (repeatL z (n + 1)).drop z.length = repeatL z n := by simp [repeatL]
    rw [e1] at h1
    rw [e2] at h2
    obtain ⟨q1, q2, q3⟩ := rowSE_ok ks z _ r hrow h1
    have := (ValRows.one (ρ := ρ) q1 q2 q3).append (repRows hrow n _ h2)
    rw [List.take_append_drop] at this
    simpa [List.replicate_succ] using this
theorem makeSliceB_ok {h h' : AHeap} (hr : HR ρ h.blk.get w) {t : TypeId} {l c a : AV} {lv cv : Value} (hl : VR ρ l lv) (hcv : VR ρ c cv) (hb : makeSliceB E t l c h = some (a, h')) (hf : Free ρ h.nx h'.nx) :
    Leaves1 E ρ h h' w (Instr.makeSlice t lv cv) a := by
  unfold makeSliceB at hb
  split at hb
  · rename_i k ie
    split at hb
    · rename_i k2 im
      split at hb
      · rename_i e hc0 hd
        split at hb
        · rename_i inf ks z hi hk hz
          split at hb
          · rename_i r hc hrow
            cases hb
            obtain ⟨hk0, hsame⟩ := andT hc0
            have hk1 : k = .i64 := by simpa using hk0
            have hsm := SE.same_ok hsame
            subst hk1; subst hsm
            obtain ⟨hc, c5⟩ := andT hc
            obtain ⟨hc, c4⟩ := andT hc
            obtain ⟨hc, c3⟩ := andT hc
            obtain ⟨c1, c2⟩ := andT hc
            have e1 := beqT c1
            have e2 := beqT c2
            have e3 := bleT c3
            have b4 := decF_ok c4
            have b5 := decT_ok c5
            rw [evalB_lss, decide_eq_false_iff_not, evalI_c] at b4
            rw [evalB_lss, decide_eq_true_eq, evalI_c] at b5
            cases hl
            cases hcv
            generalize hN : evalI U.V ie = N at *
            obtain ⟨n, rfl⟩ : ∃ n : Nat, N = n := ⟨N.toNat, by omega⟩
            obtain ⟨zv, z1, z2⟩ := hE.run_zero ρ hz w
            have zc := (ofValue_VR ρ z2).cells (ofValue_top z2)
            have hfree : ρ h.nx = none := hf h.nx (Nat.le_refl _) (by simp [AHeap.new])
            have h0 : n * z.cells.length = 0 ∨ (if n * inf.size = 0 then #[] else zv.cells) = zv.cells := by
              rw [e2]
              by_cases e0 : n * inf.size = 0
              · exact .inl e0
              · exact .inr (by rw [if_neg e0])
            have hcells := repeatL_VL zc n (if n * inf.size = 0 then #[] else zv.cells) h0
            have hvr := repRows (ρ := ρ) hrow n _ hcells
            rw [e2] at hcells hvr
            have hk2 : U.K e = some ks := by rw [hE.kd, ← hE.ke]; exact hk
            generalize hX : (Array.range (n * inf.size)).map ((if n * inf.size = 0 then #[] else zv.cells)[· % (if n * inf.size = 0 then #[] else zv.cells).size]!) = X at *
            have hXs : X.size = n * inf.size := by rw [← hX]; simp
            have er : (evalD U.V (.rep ie r)).rows = List.replicate n (evalD U.V r) := by
              show List.replicate (evalD U.V ie).toInt.toNat _ = _
              have : (evalD U.V ie).toInt = (n : Int) := hN
              rw [this]; rfl
            have hrows : RowsAt U.K ρ.imm ks X 0 (evalD U.V (.rep ie r)).rows := by
              rw [er]
              exact hvr.at (by simp) (fun q hq => by rw [Nat.zero_add, Array.getElem?_toList])
            obtain ⟨p1, p2⟩ := hr.new hfree (.arr e (.rep ie r)) (.cells X e) X.size ⟨ks, _, e, _, hk2, rfl, rfl, .inl rfl, hrows⟩ { w with heap := w.heap.push (.cells X e) } rfl rfl rfl rfl
            have hwrap := wrap_small n (by omega)
            refine ⟨_, .slice (some ⟨w.heap.size, 0, none⟩) n n, _, ?_, ?_, p1, p2⟩
            · have hby : inf.bytes * n ≤ 1024 * 1048577 := Nat.mul_le_mul e3 (by omega)
              simp only [Instr.makeSlice, Sem.run_bind, hE.run_und hd, Result.andThen_ok, asInt, asIntOf, Sem.run_pure, hE.run_info hi, hwrap]
              have hbn : ¬ ((inf.bytes : Int) * (n : Int) > 2 ^ 48) := by
                have : ((inf.bytes * n : Nat) : Int) ≤ 1024 * 1048577 := by omega
                rw [Int.natCast_mul] at this
                omega
              have hcond : (decide ((n : Int) < 0) || decide ((inf.bytes : Int) * (n : Int) > 2 ^ 48) || decide ((n : Int) < 0) || decide ((n : Int) > (n : Int))) = false := by
                rw [decide_eq_false hbn, decide_eq_false (show ¬ ((n : Int) < 0) by omega), decide_eq_false (show ¬ ((n : Int) > (n : Int)) by omega)]
                rfl
              rw [if_neg (by rw [hcond]; exact Bool.false_ne_true)]
              simp only [Sem.run_bind, run_askRoom, Result.andThen_ok, Int.toNat_natCast, hE.run_sz hi]
              by_cases e0 : n * inf.size = 0
              · rw [if_pos e0] at hX
                rw [if_pos e0]
                simp only [Sem.run_bind, Sem.run_pure, Result.andThen_ok, newRow, run_newObj, hX]
              · rw [if_neg e0] at hX
                rw [if_neg e0]
                simp only [Sem.run_bind, z1, Sem.run_pure, Result.andThen_ok, newRow, run_newObj, hX]
            · have hlen : evalI U.V (.lenL (.rep ie r)) = (n : Int) := by rw [evalI_lenL, er]; simp
              have := VR.asl (ρ := ρ.upd h.nx ⟨w.heap.size, 0, X.size⟩) h.nx inf.size (.lenL (.rep ie r)) (.bc false) n ⟨w.heap.size, 0, X.size⟩ (Ren.upd_same _ _ _) (by rw [hlen]; exact Int.natCast_nonneg _) (by rw [hlen]; simp) (by show 0 + n * inf.size ≤ X.size; rw [hXs]; omega) rfl
              rw [hlen] at this
              simpa using this
          · cases hb
        · cases hb
      · cases hb
    · cases hb
  · exact makeSliceA_ok hE hr hl hcv hb hf
end
end Go.AE

/-! AeFrz -/
namespace Go.AE
variable [U : Unk]
set_option linter.unusedVariables false

section
variable {E : Env} {w : World} (hE : OK E)
include hE

/-- a block that nobody writes any more -/
theorem HR.freeze {ρ : Ren} {h : AHeap} (hr : HR ρ h.blk.get w) {b : Nat} {base : Base} (hb : ρ b = some base) (hl : h.blk.get b ≠ none) {cur : Array Value} {e : TypeId} {fz : Nat × Nat} (hw : w.heap[base.cb]? = some (.cells cur e fz)) :
    ∃ σ : Ren, ρ.le σ ∧ σ.imm base.cb = some cur ∧ HR σ (h.strike b).blk.get w ∧ Ext ρ σ h (h.strike b) w w := by
  let σ : Ren := ⟨ρ.m, fun k => if k = base.cb then some cur else ρ.imm k⟩
  have hle : ρ.le σ := ⟨fun _ _ h => h, fun k a hk => by
    show (if k = base.cb then some cur else ρ.imm k) = some a
    rw [if_neg (fun e => hr.off k a b base hk hb hl e.symm)]
    exact hk⟩
  have hstr : ∀ c, (h.strike b).blk.get c ≠ none → c ≠ b ∧ h.blk.get c ≠ none := by
    intro c hc
    simp only [AHeap.strike, T.get_del] at hc
    by_cases e : b = c
    · rw [if_pos e] at hc; exact absurd rfl hc
    · rw [if_neg e] at hc; exact ⟨fun e' => e e'.symm, hc⟩
  have hget : ∀ c, c ≠ b → (h.strike b).blk.get c = h.blk.get c := by
    intro c hc
    simp only [AHeap.strike, T.get_del]
    rw [if_neg (fun e => hc e.symm)]
  obtain ⟨p1, p2⟩ := hr.strike b
  refine ⟨σ, hle, ?_, ⟨hr.lt, ?_, ?_, ?_, ?_⟩, ⟨hle, p2.nx, fun c bs hc => .inl hc, p2.calm, fun _ _ _ => rfl, p2.log, p2.live, ?_⟩⟩
  · show (if base.cb = base.cb then some cur else _) = _
    rw [if_pos rfl]
  · intro c bs x hc hx
    have hc2 := hstr c (by rw [hx]; exact Option.some_ne_none _)
    rw [hget c hc2.1] at hx
    exact (hr.blk c bs x hc hx).mono hle
  · intro c c' bs bs' hne hc hc' h1 h2
    exact hr.apart c c' bs bs' hne hc hc' (hstr c h1).2 (hstr c' h2).2
  · intro k arr hk
    have hk' : (if k = base.cb then some cur else ρ.imm k) = some arr := hk
    by_cases c : k = base.cb
    · rw [if_pos c] at hk'
      cases hk'
      subst c
      exact ⟨e, fz, hw⟩
    · rw [if_neg c] at hk'
      exact hr.imm k arr hk'
  · intro k arr c bs hk hc hlc
    have hc2 := hstr c hlc
    have hk' : (if k = base.cb then some cur else ρ.imm k) = some arr := hk
    by_cases d : k = base.cb
    · subst d
      exact hr.apart c b bs base hc2.1 hc hb hc2.2 hl
    · rw [if_neg d] at hk'
      exact hr.off k arr c bs hk' hc hc2.2
  · intro k arr hk
    have hk' : (if k = base.cb then some cur else ρ.imm k) = some arr := hk
    by_cases d : k = base.cb
    · exact .inr (.inr ⟨b, base, hb, hl, d.symm⟩)
    · rw [if_neg d] at hk'
      exact .inl hk'

theorem frz1_ok {ρ : Ren} {h h' : AHeap} {kd : Kd} {a a' : AV} {v : Value} (hr : HR ρ h.blk.get w) (ha : VR ρ a v) (hx : frz1 E kd a h = (a', h')) :
    ∃ σ : Ren, VR σ a' v ∧ HR σ h'.blk.get w ∧ Ext ρ σ h h' w w := by
  have same : (a, h) = (a', h') → ∃ σ : Ren, VR σ a' v ∧ HR σ h'.blk.get w ∧ Ext ρ σ h h' w w := by
    intro e; cases e
    exact ⟨ρ, ha, hr, Ext.refl _ _ _⟩
  unfold frz1 at hx
  split at hx
  · rename_i e
    split at hx
    · rename_i b es n nl
      split at hx
      · rename_i e' x ks hg hk
        split at hx
        · rename_i hc
          cases hx
          obtain ⟨hc, c3⟩ := andT hc
          obtain ⟨c1, c2⟩ := andT hc
          have e1 := beqT c1
          subst e1
          have e2 := beqT c2
          have ha := aslLen_ok c3 ha
          have hk2 : U.K e = some ks := by rw [hE.kd, ← hE.ke]; exact hk
          have hnil : (evalD U.V (.nilIs x nl)).isNil = evalB U.V nl := rfl
          have hrw : (evalD U.V (.nilIs x nl)).rows = (evalD U.V x).rows := rfl
          cases ha with
          | asl _ _ _ _ cap base hb h0 hcap hz hnl =>
            obtain ⟨ks', cur, et, fz, b1, b2, b3, b4, b5⟩ := hr.blk b base _ hb hg
            rw [hk2] at b1; cases b1
            obtain ⟨σ, q1, q2, q3, q4⟩ := HR.freeze hE hr hb (by rw [hg]; exact Option.some_ne_none _) b2
            have hlen : (evalI U.V (.lenL x)).toNat = (evalD U.V x).rows.length := by rw [evalI_lenL]; simp
            refine ⟨σ, .dat e _ _ _ _ ?_, q3, q4⟩
            have b6 := b5.mono q1.imm
            exact .slc e base.cb base.co _ cap _ ks cur hk2 q2 (by rw [hrw, hlen]) hcap (by rw [hnil, hnl]) (by rw [hlen]; exact b6.1) (fun i hi => b6.2.1 i (by rw [hlen] at hi; exact hi)) (fun i j kd hi hj => b6.2.2 i j kd (by rw [hlen] at hi; exact hi) hj)
          | aslEnd _ _ _ _ ad h0 hn0 =>
            obtain ⟨p1, p2⟩ := hr.strike b
            have hl0 : (evalD U.V x).rows = [] := by
              rw [evalI_lenL] at h0
              exact List.eq_nil_of_length_eq_zero (by omega)
            refine ⟨ρ, .dat e _ _ _ _ ?_, p1, p2⟩
            cases ad with
            | none => exact .nil e _ (by rw [hnil, ← hn0]; rfl) (by rw [hrw]; exact hl0)
            | some ad => exact .empty e ad 0 _ (by rw [hnil, ← hn0]; rfl) (by rw [hrw]; exact hl0)
        · exact same hx
      · exact same hx
    · rename_i nl
      cases hx
      cases ha with
      | eslc _ ad hn0 =>
        have hnil : (evalD U.V (.nilIs .nilL nl)).isNil = evalB U.V nl := rfl
        refine ⟨ρ, .dat e _ _ _ _ ?_, hr, Ext.refl _ _ _⟩
        cases ad with
        | none => exact .nil e _ (by rw [hnil, ← hn0]; rfl) rfl
        | some ad => exact .empty e ad 0 _ (by rw [hnil, ← hn0]; rfl) rfl
    · rename_i b off n es
      split at hx
      · rename_i ks hk
        split at hx
        · rename_i l hes hl
          split at hx
          · rename_i y hy
            cases hx
            have hes := beqT hes
            have hk2 : U.K e = some ks := by rw [hE.kd, ← hE.ke]; exact hk
            obtain ⟨vs, v1, v2, v3⟩ := cellsRows hE (e := e) (ks := ks) hr ha hl
            obtain ⟨rs, r1, r2, r3⟩ := rowsSE_ok (ρ := ρ) n .emptyL y l vs hy v1
            have er : (evalD U.V y).rows = rs := by rw [r2]; rfl
            have hnil : (evalD U.V y).isNil = false := by
              have : ∀ (n : Nat) (y0 y : SE) (l : List AV), rowsSE ks n y0 l = some y → (evalD U.V y0).isNil = false → (evalD U.V y).isNil = false := by
                intro n
                induction n with
                | zero => intro y0 y l h h0; cases l with
                  | nil => simp only [rowsSE, Option.some.injEq] at h; subst h; exact h0
                  | cons => cases h
                | succ n ih =>
                  intro y0 y l h h0
                  simp only [rowsSE] at h
                  split at h
                  · exact ih _ _ _ h rfl
                  · cases h
              exact this n .emptyL y l hy rfl
            rcases v3 with ⟨h0, ad, rfl⟩ | ⟨base, cur, et, fz, cap, sz, c, hb, hg, rfl, hcap, hz, hw, hcs, hfz, hv⟩
            · obtain ⟨p1, p2⟩ := hr.strike b
              exact ⟨ρ, .dat e _ _ _ _ (.empty e ad 0 _ hnil (by rw [er]; exact List.eq_nil_of_length_eq_zero (by rw [r1, h0]))), p1, p2⟩
            · obtain ⟨σ, q1, q2, q3, q4⟩ := HR.freeze hE hr hb (by rw [hg]; exact Option.some_ne_none _) hw
              have hmul : n * es ≤ cap * es := Nat.mul_le_mul_right _ hcap
              have hrows : RowsAt U.K ρ.imm ks cur (base.co + off) rs := r3.at (by rw [v2, hcs]; omega) hv
              have b6 := hrows.mono q1.imm
              rw [← er] at b6
              have hln : (evalD U.V y).rows.length = n := by rw [er, r1]
              refine ⟨σ, .dat e _ _ _ _ (.slc e base.cb (base.co + off) n cap _ ks cur hk2 q2 hln hcap hnil ?_ (fun i hi => b6.2.1 i (by rw [hln]; exact hi)) (fun i j kd hi hj => b6.2.2 i j kd (by rw [hln]; exact hi) hj)), q3, q4⟩
              have := b6.1
              rw [hln] at this
              exact this
          · exact same hx
        · exact same hx
      · exact same hx
    · exact same hx
  · exact same hx

omit hE in
theorem frz1_nx {kd : Kd} {a a' : AV} {h h' : AHeap} (hx : frz1 E kd a h = (a', h')) : h'.nx = h.nx := by
  unfold frz1 at hx
  repeat' split at hx
  all_goals (cases hx; rfl)
theorem frzL_ok : ∀ {ks : List Kd} {l l' : List AV} {vs : List Value} {ρ : Ren} {h h' : AHeap}, HR ρ h.blk.get w → VL ρ l vs → frzL E ks l h = (l', h') →
    h'.nx = h.nx ∧ ∃ σ : Ren, VL σ l' vs ∧ HR σ h'.blk.get w ∧ Ext ρ σ h h' w w
  | [], l, l', vs, ρ, h, h', hr, hv, hx => by
    cases l <;> (simp only [frzL] at hx; cases hx; exact ⟨rfl, ρ, hv, hr, Ext.refl _ _ _⟩)
  | k :: ks, [], l', vs, ρ, h, h', hr, hv, hx => by
    simp only [frzL] at hx; cases hx; exact ⟨rfl, ρ, hv, hr, Ext.refl _ _ _⟩
  | k :: ks, a :: l, l', vs, ρ, h, h', hr, hv, hx => by
    obtain ⟨v, r, rfl, h1, h2⟩ := hv.cons_inv
    simp only [frzL] at hx
    generalize hf1 : frz1 E k a h = p1 at hx
    obtain ⟨a1, h3⟩ := p1
    simp only at hx
    generalize hf2 : frzL E ks l h3 = p2 at hx
    obtain ⟨l1, h4⟩ := p2
    simp only at hx
    cases hx
    have hn1 := frz1_nx hf1
    obtain ⟨σ, q1, q2, q3⟩ := frz1_ok hE hr h1 hf1
    obtain ⟨hn2, τ, r1, r2, r3⟩ := frzL_ok q2 (h2.mono q3.le) hf2
    refine ⟨by omega, τ, VL.cons (q1.mono r3.le) r1, r2, q3.trans r3 (fun b hb hb2 => by omega)⟩

omit hE in
theorem frz1_str {kd : Kd} {a a' : AV} {h h' : AHeap} (hx : frz1 E kd a h = (a', h')) : h' = h ∨ ∃ b, h' = h.strike b := by
  unfold frz1 at hx
  repeat' split at hx
  all_goals (cases hx; first | exact .inl rfl | exact .inr ⟨_, rfl⟩)
omit hE in
theorem frzL_str : ∀ {ks : List Kd} {l l' : List AV} {h h' : AHeap}, frzL E ks l h = (l', h') → h'.nx = h.nx ∧ (∃ m, h'.log = m ++ h.log ∧ ∀ c, c ∉ m → h'.blk.get c = h.blk.get c) ∧ ∀ c, h'.blk.get c = none ∨ h'.blk.get c = h.blk.get c
  | [], l, l', h, h', hx => by
    cases l <;> (simp only [frzL] at hx; cases hx; exact ⟨rfl, ⟨[], rfl, fun _ _ => rfl⟩, fun _ => .inr rfl⟩)
  | k :: ks, [], l', h, h', hx => by
    simp only [frzL] at hx; cases hx; exact ⟨rfl, ⟨[], rfl, fun _ _ => rfl⟩, fun _ => .inr rfl⟩
  | k :: ks, a :: l, l', h, h', hx => by
    simp only [frzL] at hx
    generalize hf1 : frz1 E k a h = p1 at hx
    obtain ⟨a1, h3⟩ := p1
    simp only at hx
    generalize hf2 : frzL E ks l h3 = p2 at hx
    obtain ⟨l1, h4⟩ := p2
    simp only at hx
    cases hx
    obtain ⟨q1, ⟨m, q2, q3⟩, q4⟩ := frzL_str hf2
    rcases frz1_str hf1 with rfl | ⟨b, rfl⟩
    · exact ⟨q1, ⟨m, q2, q3⟩, q4⟩
    · have hget : ∀ c, (h.strike b).blk.get c = if b = c then none else h.blk.get c := fun c => by simp only [AHeap.strike, T.get_del]
      refine ⟨q1, ⟨m ++ [b], by rw [q2]; simp [AHeap.strike], fun c hc => ?_⟩, fun c => ?_⟩
      · simp only [List.mem_append, List.mem_singleton, not_or] at hc
        rw [q3 c hc.1, hget, if_neg (fun e => hc.2 e.symm)]
      · rcases q4 c with r | r
        · exact .inl r
        · rw [r, hget]
          by_cases e : b = c
          · rw [if_pos e]; exact .inl rfl
          · rw [if_neg e]; exact .inr rfl
theorem frzBlk_ok {ρ : Ren} {h : AHeap} {e : TypeId} {b : Nat} (hr : HR ρ h.blk.get w) : (frzBlk E e b h).nx = h.nx ∧ ∃ σ : Ren, HR σ (frzBlk E e b h).blk.get w ∧ Ext ρ σ h (frzBlk E e b h) w w := by
  have same : h.nx = h.nx ∧ ∃ σ : Ren, HR σ h.blk.get w ∧ Ext ρ σ h h w w := ⟨rfl, ρ, hr, Ext.refl _ _ _⟩
  unfold frzBlk
  split
  · rename_i n c ks hg hk
    split
    · rename_i l hl
      split
      rename_i l' h' hf
      split
      · rename_i m c' hg'
        split
        · rename_i hc
          obtain ⟨c1, c2⟩ := andT hc
          have e1 := beqT c1
          have e2 := beqT c2
          subst e1
          cases hb : ρ b with
          | none =>
            -- a block that lies nowhere
            obtain ⟨s1, ⟨mm, s2, s3⟩, s4⟩ := frzL_str hf
            have hr' : HR ρ h'.blk.get w := hr.restrict (fun c => s4 c)
            have hget : ∀ c, c ≠ b → (h'.put b (.cells m (.ofList l'))).blk.get c = h'.blk.get c := fun c hc => by
              simp only [AHeap.put, T.get_set]; rw [if_neg (fun e => hc e.symm)]
            have ne : ∀ {c : Nat} {bs : Base}, ρ c = some bs → c ≠ b := fun hc e => by subst e; rw [hb] at hc; cases hc
            refine ⟨s1, ρ, ⟨hr'.lt, fun c bs x hc hx => ?_, fun c c' bs bs' hne hc hc' h1 h2 => ?_, hr'.imm, fun k arr c bs hk hc hl => ?_⟩, ⟨Ren.le_refl ρ, by show h.nx ≤ h'.nx; omega, fun _ _ e => .inl e, Calm.refl w, fun _ _ _ => rfl, ⟨b :: mm, by simp [AHeap.put, s2], fun c hc _ => ?_⟩, fun c hc => ?_, fun _ _ e => .inl e⟩⟩
            · rw [hget c (ne hc)] at hx
              exact hr'.blk c bs x hc hx
            · rw [hget c (ne hc)] at h1
              rw [hget c' (ne hc')] at h2
              exact hr'.apart c c' bs bs' hne hc hc' h1 h2
            · rw [hget c (ne hc)] at hl
              exact hr'.off k arr c bs hk hc hl
            · simp only [List.mem_cons, not_or] at hc
              rw [hget c hc.1]
              exact s3 c hc.2
            · by_cases e : c = b
              · subst e; exact .inl (by rw [hg]; exact Option.some_ne_none _)
              · rw [hget c e] at hc
                rcases s4 c with r | r
                · rw [r] at hc; exact absurd rfl hc
                · rw [r] at hc; exact .inl hc
          | some base =>
            obtain ⟨cur, et, fz, b1, b2, b3, b4, b5⟩ := hr.blk b base _ hb hg
            obtain ⟨l1, l2⟩ := T.range_spec c _ _ _ hl
            have hvl : VL ρ l ((cur.toList.drop base.co).take m) := by
              refine ⟨by simp [l1]; omega, fun i a v ha hv => ?_⟩
              have hi : i < m := by have := (List.getElem?_eq_some_iff.1 ha).1; omega
              have := l2 i hi
              rw [Nat.zero_add, ha] at this
              obtain ⟨v', v1, v2⟩ := b5 i a hi this
              rw [List.getElem?_take, if_pos hi, List.getElem?_drop, Array.getElem?_toList, v1] at hv
              cases hv
              exact v2
            obtain ⟨hn, σ, q1, q2, q3⟩ := frzL_ok hE hr hvl hf
            have hσ : σ b = some base := q3.le.m b base hb
            obtain ⟨r1, r2⟩ := q2.put hσ (by rw [hg']; exact Option.some_ne_none _) (.cells m (.ofList l')) w ⟨cur, et, fz, b1, b2, b3, b4, fun i a hi ha => by
              rw [T.get_ofList] at ha
              have hv : ((cur.toList.drop base.co).take m)[i]? = cur[base.co + i]? := by
                rw [List.getElem?_take, if_pos hi, List.getElem?_drop, Array.getElem?_toList]
              have hlt : base.co + i < cur.size := by omega
              have hc : cur[base.co + i]? = some cur[base.co + i] := by simp [hlt]
              exact ⟨_, hc, q1.2 i a _ ha (by rw [hv, hc])⟩⟩ rfl (fun _ _ => rfl) rfl rfl rfl
            exact ⟨hn, σ, r1, q3.trans r2 (fun c h1 h2 => by simp only [AHeap.put] at h2; omega)⟩
        · exact same
      · exact same
    · exact same
  · exact same
omit hE in
theorem Ext.same_nx {ρ σ τ : Ren} {h h1 h2 : AHeap} {w w1 w2 : World} (e : Ext ρ σ h h1 w w1) (k : Ext σ τ h1 h2 w1 w2) (hn : h1.nx = h.nx) (f : Free ρ h.nx h2.nx) : Ext ρ τ h h2 w w2 := e.trans k f
omit hE in
theorem storeB_nx {t : TypeId} {x a : AV} {h h' : AHeap} (hx : storeB E t x a h = some h') : h'.nx = h.nx := by
  unfold storeB storeA storeN at hx
  repeat' split at hx
  all_goals first | (cases hx; done) | (cases hx; rfl)
theorem frzStore_ok {ρ : Ren} {h h' : AHeap} (hr : HR ρ h.blk.get w) {t : TypeId} {x a : AV} {xv v : Value} (hx : VR ρ x xv) (ha : VR ρ a v) (hl : frzStore E t x a h = some h') :
    ∃ σ w', (Instr.storeAt t xv v).run E.P w = .ok () w' ∧ HR σ h'.blk.get w' ∧ Ext ρ σ h h' w w' := by
  have plain : storeB E t x a h = some h' → ∃ σ w', (Instr.storeAt t xv v).run E.P w = .ok () w' ∧ HR σ h'.blk.get w' ∧ Ext ρ σ h h' w w' := by
    intro hs
    obtain ⟨w', q1, q2, q3⟩ := storeB_ok hE hr hx ha hs
    exact ⟨ρ, w', q1, q2, q3⟩
  have snx : ∀ {t : TypeId} {x a : AV} {h h' : AHeap}, storeB E t x a h = some h' → h'.nx = h.nx := storeB_nx
  unfold frzStore at hl
  split at hl
  · split at hl
    · split at hl
      · split at hl
        · split at hl
          · rename_i l
            split at hl
            rename_i l1 h1 hf
            cases ha with
            | agg _ l' e1 e2 =>
              obtain ⟨hn, σ, q1, q2, q3⟩ := frzL_ok hE hr ⟨e1, e2⟩ hf
              obtain ⟨w', r1, r2, r3⟩ := storeB_ok hE q2 (hx.mono q3.le) (.agg l1 l' q1.1 q1.2) hl
              have := snx hl
              exact ⟨σ, w', r1, r2, q3.trans r3 (fun b hb hb2 => by omega)⟩
          · split at hl
            rename_i v1 h1 hf
            obtain ⟨σ, q1, q2, q3⟩ := frz1_ok hE hr ha hf
            obtain ⟨w', r1, r2, r3⟩ := storeB_ok hE q2 (hx.mono q3.le) q1 hl
            have := snx hl
            have := frz1_nx hf
            exact ⟨σ, w', r1, r2, q3.trans r3 (fun b hb hb2 => by omega)⟩
        · exact plain hl
      · exact plain hl
    · exact plain hl
  · exact plain hl
theorem frzAt_ok {ρ : Ren} {h : AHeap} {e : TypeId} {a : AV} (hr : HR ρ h.blk.get w) : (frzAt E e a h).nx = h.nx ∧ ∃ σ : Ren, HR σ (frzAt E e a h).blk.get w ∧ Ext ρ σ h (frzAt E e a h) w w := by
  have same : h.nx = h.nx ∧ ∃ σ : Ren, HR σ h.blk.get w ∧ Ext ρ σ h h w w := ⟨rfl, ρ, hr, Ext.refl _ _ _⟩
  unfold frzAt
  split
  · split
    · split
      · exact frzBlk_ok hE hr
      · exact same
    · exact same
  · exact same
theorem frzAppend_ok {ρ : Ren} {h h' : AHeap} (hr : HR ρ h.blk.get w) {t t' ty : TypeId} {s x a : AV} {sv xv : Value} (hs : VR ρ s sv) (hx : VR ρ x xv) (ha : frzAppend E t t' s x h = some (a, h')) (hf : Free ρ h.nx h'.nx)
    (hA : ∀ a h', appendA E t t' s x h = some (a, h') → Free ρ h.nx h'.nx → Leaves1 E ρ h h' w (Builtin.append_ #[t, t'] ty #[sv, xv]) a) :
    Leaves1 E ρ h h' w (Builtin.append_ #[t, t'] ty #[sv, xv]) a := by
  unfold frzAppend at ha
  split at ha
  · rename_i hsy
    split at ha
    · rename_i e hd
      obtain ⟨n1, σ, q1, q2⟩ := frzAt_ok (e := e) (a := s) hE hr
      obtain ⟨n2, τ, r1, r2⟩ := frzAt_ok (e := e) (a := x) hE q1
      have hle := q2.le.trans r2.le
      have hfr : Free τ (frzAt E e x (frzAt E e s h)).nx h'.nx := Ext.free r2 (Ext.free q2 hf)
      obtain ⟨υ, v, w', s1, s2, s3, s4⟩ := appendB_ok hE r1 (hs.mono hle) (hx.mono hle) ha hfr (fun a h'' hq hf2 => appendA_ok hE r1 (hs.mono hle) (hx.mono hle) hq hf2)
      exact ⟨υ, v, w', s1, s2, s3, q2.trans (r2.trans s4 (Ext.free q2 hf)) hf⟩
    · exact appendB_ok hE hr hs hx ha hf hA
  · exact appendB_ok hE hr hs hx ha hf hA
end
end Go.AE

/-! AeOps19 -/
namespace Go.AE
variable [U : Unk]
set_option linter.unusedVariables false

section
variable {E : Env} (hE : OK E) {ρ : Ren} {h : AHeap} {w : World}

theorem does_unitS {s : Sem Unit} {why : String} {o : Option AHeap} (ho : ∀ h', o = some h' → ∃ σ w', s.run E.P w = .ok () w' ∧ HR σ h'.blk.get w' ∧ Ext ρ σ h h' w w') :
    Does E ρ h w (do s; pure .skip) (toResU why o) := by
  cases o with
  | none => trivial
  | some h' =>
    intro hf
    obtain ⟨σ, w', q1, q2, q3⟩ := ho h' rfl
    exact ⟨σ, Go.undef, w', .inr ⟨by simp [q1], rfl⟩, VR.undef σ, q2, q3⟩
theorem does_unitV {s : Sem Value} {why : String} {o : Option AHeap} (ho : ∀ h', o = some h' → ∃ w', s.run E.P w = .ok (.tuple #[]) w' ∧ HR ρ h'.blk.get w' ∧ Ext ρ ρ h h' w w') :
    Does E ρ h w (do pure (.value (← s))) (toResU why o) := by
  cases o with
  | none => trivial
  | some h' =>
    intro hf
    obtain ⟨w', q1, q2, q3⟩ := ho h' rfl
    exact ⟨ρ, Go.undef, w', .inl (by simp [q1, Go.undef]), VR.undef ρ, q2, q3⟩

theorem maxL_ok {ats : Array TypeId} {ty : TypeId} {args : List AV} {args' : List Value} {a : AV} (ha : VL ρ args args') (hq : maxL args = some a) : ∃ v, (Builtin.max_ ats ty args'.toArray).run E.P w = .ok v w ∧ VR ρ a v := by
  cases args with
  | nil => cases hq
  | cons x r =>
    obtain ⟨v, r', rfl, hv, hl⟩ := ha.cons_inv
    cases hv <;> first | (cases hq; done) | skip
    obtain ⟨u, q1, q2⟩ := maxFrom_ok E.P w _ hl hq
    exact ⟨u, by simpa [Builtin.max_] using q1, q2⟩
theorem minL_ok {ats : Array TypeId} {ty : TypeId} {args : List AV} {args' : List Value} {a : AV} (ha : VL ρ args args') (hq : minL args = some a) : ∃ v, (Builtin.min_ ats ty args'.toArray).run E.P w = .ok v w ∧ VR ρ a v := by
  cases args with
  | nil => cases hq
  | cons x r =>
    obtain ⟨v, r', rfl, hv, hl⟩ := ha.cons_inv
    cases hv <;> first | (cases hq; done) | skip
    obtain ⟨u, q1, q2⟩ := minFrom_ok E.P w _ hl hq
    exact ⟨u, by simpa [Builtin.min_] using q1, q2⟩

include hE
theorem clearA_ok (hr : HR ρ h.blk.get w) {t ty : TypeId} {x : AV} {xv : Value} {h' : AHeap} (hx : VR ρ x xv) (ha : clearA E t x h = some h') (ats : Array TypeId) (hat : ats[0]? = some t) :
    ∃ w', (Builtin.clear_ ats ty #[xv]).run E.P w = .ok (.tuple #[]) w' ∧ HR ρ h'.blk.get w' ∧ Ext ρ ρ h h' w w' := by
  unfold clearA at ha
  cases hd : E.desc t with
  | none => rw [hd] at ha; cases ha
  | some d =>
    rw [hd] at ha
    have hu := hE.run_und hd w
    simp only [] at ha
    cases hx <;> first | (cases ha; done) | skip
    · simp only [Option.some.injEq] at ha
      subst ha
      exact ⟨w, by cases d <;> simp [Builtin.clear_, hat, hu], hr, Ext.refl ρ h w⟩
    · rename_i b off n es cap base hb hcap hz
      cases n with
      | zero =>
        simp only [Option.some.injEq] at ha
        subst ha
        exact ⟨w, by cases d <;> simp [Builtin.clear_, hat, hu], hr, Ext.refl ρ h w⟩
      | succ n =>
        cases d <;> first | (cases ha; done) | skip
        rename_i e
        simp only [] at ha
        cases hzz : E.zero e with
        | none => rw [hzz] at ha; cases ha
        | some z =>
          rw [hzz] at ha
          simp only [] at ha
          cases hzl : Nat.beq z.cells.length es with
          | false => rw [hzl] at ha; cases ha
          | true =>
            rw [hzl] at ha
            simp only [] at ha
            have hzl' := beqT hzl
            obtain ⟨zv, z1, z2⟩ := hE.run_zero ρ hzz w
            have zc := (ofValue_VR ρ z2).cells (ofValue_top z2)
            have hv := repeatL_VL zc (n + 1) zv.cells (.inr rfl)
            obtain ⟨w', q1, q2, q3⟩ := hr.storeN E.P hb hv ha
            refine ⟨w', ?_, q2, q3⟩
            have hzs : zv.cells.size = z.cells.length := by have := zc.1; simp at this; omega
            have e0 : (Builtin.zeroCells zv.cells (n + 1)).toList = ((Array.range ((n + 1) * z.cells.length)).map (zv.cells[· % zv.cells.size]!)).toList := by
              rw [Builtin.zeroCells, hzs]
            simp only [Builtin.clear_, hat, List.getElem?_toArray, List.getElem?_cons_zero, Sem.run_bind, hu, Result.andThen_ok, z1, e0, q1, Sem.run_pure]
    · rename_i b off es ad
      simp only [Option.some.injEq] at ha
      subst ha
      exact ⟨w, by cases d <;> simp [Builtin.clear_, hat, hu], hr, Ext.refl ρ h w⟩
    · rename_i b base hb
      simp only [] at ha
      cases hg : h.blk.get b with
      | none => rw [hg] at ha; cases ha
      | some y =>
        rw [hg] at ha
        cases y <;> first | (cases ha; done) | skip
        rename_i es clock
        simp only [Option.some.injEq] at ha
        subst ha
        obtain ⟨es', e1, e2⟩ := hr.blk b base _ hb hg
        have hget := run_getObj (w := w) E.P e1 (by simp)
        obtain ⟨p1, p2⟩ := hr.setObj hb (by rw [hg]; simp) (.map [] clock) (.map #[] clock) ⟨[], rfl, trivial⟩
        refine ⟨_, ?_, p1, p2⟩
        cases d <;> simp [Builtin.clear_, hat, hu, hget, run_setObj (w := w) E.P e1 (by simp)]

theorem builtinA_ok (hr : HR ρ h.blk.get w) {b : Builtin} {ats : Array TypeId} {ty : TypeId} {consts : Array Bool} {args : List AV} {args' : List Value} (ha : VL ρ args args') :
    Does E ρ h w (builtin b ats ty consts args'.toArray) (builtinA E b ats.toList args h) := by
  unfold builtinA
  split
  · rename_i t ts x xs hts
    obtain ⟨v, r, rfl, hv, hl⟩ := ha.cons_inv
    have hat : ats[0]? = some t := by rw [← Array.getElem?_toList, hts]; rfl
    exact does_pure hr fun a hq => lenB_ok hE hr hv hq ats hat _ (by simp)
  · rename_i t t' s x hts
    obtain ⟨v, r, rfl, hv, hl⟩ := ha.cons_inv
    obtain ⟨v2, r2, rfl, hv2, hl2⟩ := hl.cons_inv
    have := hl2.nil_inv
    subst this
    have hats : ats = #[t, t'] := by cases ats; simp_all
    subst hats
    exact does_leaves fun a h' hq hf => frzAppend_ok hE hr hv hv2 hq hf (fun a h' hq hf => appendA_ok hE hr hv hv2 hq hf)
  · rename_i t ts d x hts
    obtain ⟨v, r, rfl, hv, hl⟩ := ha.cons_inv
    obtain ⟨v2, r2, rfl, hv2, hl2⟩ := hl.cons_inv
    have := hl2.nil_inv
    subst this
    have hat : ats[0]? = some t := by rw [← Array.getElem?_toList, hts]; rfl
    exact does_leaves fun a h' hq hf => copyA_ok hE hr (t' := t) hv hv2 hq ats hat
  · rename_i t ts m k hts
    obtain ⟨v, r, rfl, hv, hl⟩ := ha.cons_inv
    obtain ⟨v2, r2, rfl, hv2, hl2⟩ := hl.cons_inv
    have := hl2.nil_inv
    subst this
    have hat : ats[0]? = some t := by rw [← Array.getElem?_toList, hts]; rfl
    exact does_unitV fun h' hq => deleteA_ok hE hr hv hv2 hq ats hat
  · exact does_pure hr fun a hq => by
      unfold orA at hq
      split at hq
      · rename_i hm; cases hq; exact maxL_ok ha hm
      · exact maxSL_ok ha hq
  · exact does_pure hr fun a hq => by
      unfold orA at hq
      split at hq
      · rename_i hm; cases hq; exact minL_ok ha hm
      · exact minSL_ok ha hq
  · exact ⟨rfl, by simp [builtin]⟩
  · obtain ⟨v, r, rfl, hv, hl⟩ := ha.cons_inv
    have := hl.nil_inv
    subst this
    have hv' := hv
    cases hv
    exact ⟨rfl, _, hv', by simp [builtin, Instr.panic]⟩
  · rename_i t x hts
    obtain ⟨v, r, rfl, hv, hl⟩ := ha.cons_inv
    have := hl.nil_inv
    subst this
    have hat : ats[0]? = some t := by rw [← Array.getElem?_toList, hts]; rfl
    exact does_unitV fun h' hq => clearA_ok hE hr hv hq ats hat
  · trivial

theorem callOp_ok (hr : HR ρ h.blk.get w) {tmps : T AV} {ev : Operand → Value} (hev : EvR ρ tmps ev) (c : Call) (ty : TypeId) :
    Does E ρ h w (do let d ← resolve ev c ty; invoke d.target d.args) (callOp E tmps c h) := by
  have hargs := hev.list c.args.toList
  have hmap : (c.args.map ev) = (c.args.toList.map ev).toArray := by apply Array.ext'; simp
  unfold callOp
  cases hc : c.callee with
  | builtin b =>
    have e : ∃ cs, (do let d ← resolve ev c ty; invoke d.target d.args) = builtin b c.argTypes ty cs (c.args.toList.map ev).toArray :=
      ⟨_, by simp only [resolve, hc, pure_bind, invoke, hmap]; rfl⟩
    obtain ⟨cs, e⟩ := e
    rw [e]
    exact builtinA_ok (w := w) hE hr (b := b) (ats := c.argTypes) (ty := ty) (consts := cs) hargs
  | invoke r name =>
    have := invokeA_ok (w := w) hE hr (fn := .method name) (fn' := .method name) (captured := []) (captured' := []) rfl (VL.nil ρ) (VL.cons (hev r) hargs)
    have e : (do let d ← resolve ev c ty; invoke d.target d.args) = invoke (.fn (.method name) #[]) (ev r :: c.args.toList.map ev).toArray := by
      simp only [resolve, hc, pure_bind, hmap]
      congr 1
      simp
    rw [e]
    exact this
  | value f =>
    simp only []
    have hf := hev f
    cases hv : evalOp tmps f with
    | func fn first captured =>
      rw [hv] at hf
      cases hvf : ev f with
      | func fn' first' captured' =>
        rw [hvf] at hf
        cases hf with
        | func _ _ _ _ f' c' q1 q2 q3 q4 q5 =>
          have := invokeA_ok (w := w) hE hr q1 (captured := captured) (captured' := c') ⟨q4, q5⟩ (VL.append (l := first) (l' := f') ⟨q2, q3⟩ hargs)
          have e : (do let d ← resolve ev c ty; invoke d.target d.args) = invoke (.fn fn' c'.toArray) (f' ++ c.args.toList.map ev).toArray := by
            simp only [resolve, hc, hvf, Deferred.ofValue, pure_bind, hmap]
            congr 1
            simp
          rw [e]
          exact this
      | _ => rw [hvf] at hf; cases hf
    | _ => trivial

omit hE in
theorem deferOp_ok {tmps : T AV} {ev : Operand → Value} (hev : EvR ρ tmps ev) (c : Call) (ty : TypeId) :
    Does E ρ h w (do pure (.defer (← resolve ev c ty))) (deferOp tmps c h) := by
  have hargs := hev.list c.args.toList
  have hmap : (c.args.map ev) = (c.args.toList.map ev).toArray := by apply Array.ext'; simp
  unfold deferOp
  cases hc : c.callee with
  | value f =>
    simp only []
    have hf := hev f
    cases hv : evalOp tmps f with
    | func fn first captured =>
      rw [hv] at hf
      cases hvf : ev f with
      | func fn' first' captured' =>
        rw [hvf] at hf
        cases hf with
        | func _ _ _ _ f' c' q1 q2 q3 q4 q5 =>
          refine ⟨rfl, { target := .fn fn' c'.toArray, args := (f' ++ c.args.toList.map ev).toArray }, ?_, ?_⟩
          · exact ⟨fn', c', f' ++ c.args.toList.map ev, q1, ⟨q4, q5⟩, VL.append (l := first) (l' := f') ⟨q2, q3⟩ hargs, rfl⟩
          · simp [resolve, hc, hvf, Deferred.ofValue, hmap]
      | _ => rw [hvf] at hf; cases hf
    | _ => trivial
  | _ => trivial
end
end Go.AE

/-! AeOps20 -/
namespace Go.AE
variable [U : Unk]
set_option linter.unusedVariables false

section
variable {E : Env} (hE : OK E) {ρ : Ren} {h : AHeap} {w : World}
include hE

omit hE in
theorem does_val (hr : HR ρ h.blk.get w) {s : Sem Next} {a : AV} {v : Value} (hs : s.run E.P w = .ok (.value v) w) (hv : VR ρ a v) : Does E ρ h w s (.val a h) :=
  fun _ => ⟨ρ, v, w, .inl hs, hv, hr, Ext.refl ρ h w⟩

omit hE in
theorem optEval_ok {tmps : T AV} {ev : Operand → Value} (hev : EvR ρ tmps ev) (o : Option Operand) : (∀ a, optEval tmps o = some a → ∃ v, o.map ev = some v ∧ VR ρ a v) ∧ (optEval tmps o = none → o.map ev = none) := by
  cases o with
  | none => exact ⟨(fun a h => by cases h), fun _ => rfl⟩
  | some x => exact ⟨fun a h => by simp only [optEval, Option.some.injEq] at h; subst h; exact ⟨ev x, rfl, hev x⟩, (fun h => by cases h)⟩

theorem eqNil {t : TypeId} {ms : Array (String × TypeId)} (hd : E.desc t = some (.interface ms)) (d : Nat) : (Op.equalIn (d + 1) t .nilIface .nilIface).run E.P w = .ok true w := by
  simp [Op.equalIn, hE.run_und hd]

theorem aop_ok (hr : HR ρ h.blk.get w) {tmps : T AV} {ev : Operand → Value} (hev : EvR ρ tmps ev) (o : Oper) : Does E ρ h w (execOp ev o) (aop E tmps h o.op) := by
  unfold execOp aop
  cases hop : o.op with
  | move x => exact does_val hr (by simp) (hev x)
  | assign x => exact does_val hr (by simp) (hev x)
  | pick c a b =>
    simp only []
    have hc := hev c
    cases hv : evalOp tmps c with
    | bool t =>
      rw [hv] at hc
      cases hvc : ev c with
      | bool t' =>
        rw [hvc] at hc
        cases hc
        cases t with
        | true => exact does_val hr (by simp [asBool]) (hev a)
        | false => exact does_val hr (by simp [asBool]) (hev b)
      | _ => rw [hvc] at hc; cases hc
    | sb pos e =>
      rw [hv] at hc
      simp only []
      split
      · rename_i q hq
        have hd := decideB_ok U.ok hq
        cases hvc : ev c with
        | bool t' =>
          rw [hvc] at hc
          cases hc
          rw [hd]
          split
          · rename_i hp; rw [hp]; exact does_val hr (by simp [asBool]) (hev a)
          · rename_i hp; rw [hp]; exact does_val hr (by simp [asBool]) (hev b)
        | _ => rw [hvc] at hc; cases hc
      · trivial
    | _ => trivial
  | alloc t =>
    simp only []
    cases hz : E.zero t with
    | none => trivial
    | some z =>
      intro hf
      obtain ⟨σ, v, w', q1, q2, q3, q4⟩ := alloc_ok hE hr (hf h.nx (Nat.le_refl _) (by simp [newCells, AHeap.new])) hz
      exact ⟨σ, v, w', .inl (by simp [q1]), q2, q3, q4⟩
  | box t x =>
    simp only []
    cases ht : (evalOp tmps x).isTop with
    | true => trivial
    | false =>
      intro hf
      obtain ⟨σ, v, w', q1, q2, q3, q4⟩ := box_ok (E := E) (t := t) hr (hf h.nx (Nat.le_refl _) (by simp [newCells, AHeap.new])) (hev x) (by rintro e; rw [e] at ht; cases ht)
      exact ⟨σ, v, w', .inl (by simp [q1]), q2, q3, q4⟩
  | build t ps =>
    have hp := hev.parts ps.toList
    have hmap : (ps.map fun (i, x) => (i, ev x)) = (ps.toList.map fun (i, x) => (i, ev x)).toArray := by apply Array.ext'; simp
    simp only [hmap]
    exact does_pure hr fun a hq => buildA_ok hE hp hq
  | buildSlice t len ps =>
    have hp := hev.parts ps.toList
    have hmap : (ps.map fun (i, x) => (i, ev x)) = (ps.toList.map fun (i, x) => (i, ev x)).toArray := by apply Array.ext'; simp
    simp only [hmap]
    exact does_leaves fun a h' hq hf => buildSliceA_ok hE hr hp hq hf
  | load t a => exact does_pure hr fun x hq => loadB_ok hE hr (hev a) hq
  | store t a x => exact does_unitS fun h' hq => frzStore_ok hE hr (hev a) (hev x) hq
  | nilCheck x =>
    simp only []
    have hx := hev x
    cases hv : evalOp tmps x <;> try trivial
    all_goals (rw [hv] at hx)
    · cases hvx : ev x <;> rw [hvx] at hx <;> cases hx
      exact does_val hr rfl (.ptr _ _ _ (by assumption))
    · rename_i fn f c
      cases fn <;> try trivial
      · cases hvx : ev x with
        | func fn' f' c' =>
          rw [hvx] at hx
          cases hx with
          | func _ _ _ _ f' c' q1 q2 q3 q4 q5 =>
            have q1' := q1
            simp only [FnR] at q1
            subst q1
            exact does_val hr rfl (.func _ _ _ _ _ _ q1' q2 q3 q4 q5)
        | _ => rw [hvx] at hx; cases hx
      · cases hvx : ev x with
        | func fn' f' c' =>
          rw [hvx] at hx
          cases hx with
          | func _ _ _ _ f' c' q1 q2 q3 q4 q5 =>
            have q1' := q1
            obtain ⟨base, hb, rfl⟩ := q1
            exact does_val hr rfl (.func _ _ _ _ _ _ q1' q2 q3 q4 q5)
        | _ => rw [hvx] at hx; cases hx
    · cases hvx : ev x <;> rw [hvx] at hx <;> cases hx
      exact does_val hr rfl (.iface _ _ _ (by assumption))
  | binOp op t x y ty =>
    refine does_pure hr fun a hq => ?_
    unfold binB at hq
    cases hsy : ((evalOp tmps x).isSym || (evalOp tmps y).isSym) with
    | true =>
      rw [hsy] at hq
      simp only [] at hq
      split at hq
      · rename_i r hr0
        cases hq
        exact eqV_ok hE (hev x) (hev y) hr0
      · exact binS_ok (hev x) (hev y) hq
    | false =>
    rw [hsy] at hq
    simp only [] at hq
    cases hn : ((evalOp tmps x).isNil && (evalOp tmps y).isNil) with
    | false => rw [hn] at hq; exact binA_ok hE (hev x) (hev y) hq
    | true =>
      rw [hn] at hq
      simp only [] at hq
      obtain ⟨n1, n2⟩ := andT hn
      have e1 : evalOp tmps x = .nilIface := by
        generalize evalOp tmps x = a at n1
        cases a <;> first | rfl | cases n1
      have e2 : evalOp tmps y = .nilIface := by
        generalize evalOp tmps y = a at n2
        cases a <;> first | rfl | cases n2
      have v1 := hev x
      have v2 := hev y
      rw [e1] at v1
      rw [e2] at v2
      generalize hx : ev x = xv at v1
      generalize hy : ev y = yv at v2
      cases v1
      cases v2
      cases hc : (Region.isConst x || Region.isConst y) with
      | false => rw [hc] at hq; cases hq
      | true =>
        rw [hc] at hq
        cases hd : E.desc t with
        | none => rw [hd] at hq; cases hq
        | some d =>
          rw [hd] at hq
          cases d <;> first | (cases hq; done) | skip
          have hu := hE.run_und hd w
          have hg : (eqGuard op t x y .nilIface .nilIface).run E.P w = .ok () w := by
            unfold eqGuard
            rcases orF hc with q | q
            · cases x <;> simp only [Region.isConst, Bool.false_eq_true] at q
              cases op <;> simp
            · cases y <;> simp only [Region.isConst, Bool.false_eq_true] at q
              cases op <;> cases x <;> simp
          have heq : (Op.equal t .nilIface .nilIface).run E.P w = .ok true w := eqNil hE hd 9999
          have hb1 : binOp .eql t .nilIface .nilIface = (do pure (.bool (← Op.equal t .nilIface .nilIface))) := rfl
          have hb2 : binOp .neq t .nilIface .nilIface = (do pure (.bool (!(← Op.equal t .nilIface .nilIface)))) := rfl
          cases op <;> first | (cases hq; done) | skip
          · simp only [Option.some.injEq] at hq
            subst hq
            exact ⟨.bool true, by rw [hb1]; simp only [Sem.run_bind, hg, Result.andThen_ok, heq, Sem.run_pure], .bool _⟩
          · simp only [Option.some.injEq] at hq
            subst hq
            exact ⟨.bool false, by rw [hb2]; simp only [Sem.run_bind, hg, Result.andThen_ok, heq, Sem.run_pure, Bool.not_true], .bool _⟩
  | unOp op t x => exact does_pure hr fun a hq => unB_ok (hev x) hq
  | convert s d x => exact does_leaves fun a h' hq hf => convA_ok hE hr (hev x) hq hf
  | makeInterface t x =>
    simp only []
    cases hd : E.desc t with
    | none => trivial
    | some d =>
      cases d <;> first | trivial | exact does_val hr (by simp [Instr.makeInterface, hE.run_und hd]) (.iface t _ _ (hev x))
  | makeFunc fn first captured =>
    have h1 := hev.list first.toList
    have h2 := hev.list captured.toList
    have e1 : first.map ev = (first.toList.map ev).toArray := by apply Array.ext'; simp
    have e2 : captured.map ev = (captured.toList.map ev).toArray := by apply Array.ext'; simp
    cases fn with
    | yield l => trivial
    | _ => exact does_val hr (by simp only [Instr.makeFunc, Sem.run_bind, Sem.run_pure, Result.andThen_ok, e1, e2]) (.func _ _ _ _ _ _ rfl h1.1 h1.2 h2.1 h2.2)
  | makeMap t r =>
    have mk : ∀ {s : Sem Next}, s.run E.P w = .ok (.value (.map (some w.heap.size))) { w with heap := w.heap.push (.map #[] 0) } → Does E ρ h w s (.val (.map h.nx) (h.new (.map [] 0))) := by
      intro s hs hf
      have hfree : ρ h.nx = none := hf h.nx (Nat.le_refl _) (by simp [AHeap.new])
      obtain ⟨p1, p2⟩ := hr.new hfree (.map [] 0) (.map #[] 0) 0 ⟨[], rfl, trivial⟩ { w with heap := w.heap.push (.map #[] 0) } rfl rfl rfl rfl
      exact ⟨_, _, _, .inl hs, .map h.nx _ (Ren.upd_same _ _ _), p1, p2⟩
    cases r with
    | none => exact mk (by simp [Instr.makeMap])
    | some r =>
      simp only []
      have hx := hev r
      cases hd : E.desc t with
      | none => trivial
      | some d =>
        cases d <;> try trivial
        cases hv : evalOp tmps r <;> try trivial
        rw [hv] at hx
        cases hvx : ev r <;> rw [hvx] at hx <;> cases hx
        exact mk (by simp [Instr.makeMap, hvx, hE.run_und hd, asInt, asIntOf])
  | makeSlice t l c => exact does_leaves fun a h' hq hf => makeSliceB_ok hE hr (hev l) (hev c) hq hf
  | slice t x lo hi mx =>
    refine does_pure hr fun a hq => ?_
    obtain ⟨a1, a2⟩ := optEval_ok hev lo
    obtain ⟨b1, b2⟩ := optEval_ok hev hi
    obtain ⟨c1, c2⟩ := optEval_ok hev mx
    have hmh : optEval tmps mx ≠ none → optEval tmps hi ≠ none := by
      cases mx with
      | none => intro q; exact absurd rfl q
      | some m => cases hi with
        | none => cases hq
        | some i => intro _ q; cases q
    have hq' : sliceA E t (evalOp tmps x) (optEval tmps lo) (optEval tmps hi) (optEval tmps mx) h = some a := by
      cases mx <;> cases hi <;> first | exact hq | cases hq
    exact sliceA_ok hE hr (hev x) a1 a2 b1 b2 c1 c2 hmh hq'
  | fieldAddr t x f => exact does_pure hr fun a hq => fieldAddrB_ok hE (hev x) hq
  | field t x f => exact does_pure hr fun a hq => fieldA_ok hE (hev x) hq
  | indexAddr t x i => exact does_pure hr fun a hq => indexAddrB_ok hE (hev x) (hev i) hq
  | index t x i => exact does_pure hr fun a hq => indexA_ok hE (hev x) (hev i) hq
  | lookup t m k ok => exact does_pure hr fun a hq => lookupA_ok hE hr (hev m) (hev k) hq
  | mapUpdate t m k v => exact does_unit fun h' hq => updateA_ok hE hr (hev m) (hev k) (hev v) hq
  | insert t m k v => exact does_unit fun h' hq => updateA_ok hE hr (hev m) (hev k) (hev v) hq
  | mapEntry t m k => exact does_leaves fun a h' hq hf => entryA_ok hE hr (hev m) (hev k) hq
  | entryStore t m s v => exact does_unit fun h' hq => entryStoreA_ok hr (hev m) (hev s) (hev v) hq
  | range t x => exact does_leaves fun a h' hq hf => rangeA_ok hE hr (hev x) hq hf
  | next it isS => exact does_leaves fun a h' hq hf => nextA_ok hr (hev it) hq
  | entry it => exact does_pure hr fun a hq => iterEntryA_ok hr (hev it) hq
  | typeAssert x xt t ok => exact does_pure hr fun a hq => assertA_ok hE (hev x) hq
  | extract t i =>
    simp only []
    have hx := hev t
    cases hv : evalOp tmps t <;> try trivial
    rw [hv] at hx
    cases hvx : ev t <;> rw [hvx] at hx <;> cases hx
    rename_i l l' h1 h2
    refine does_pure hr fun a hq => ?_
    obtain ⟨v, q1, q2⟩ := VL.get (l := l) (l' := l') ⟨h1, h2⟩ hq
    exact ⟨v, by simp [Instr.extract, q1], q2⟩
  | call c => exact callOp_ok hE hr hev c o.type
  | defer c => exact deferOp_ok hev c o.type
  | panic x =>
    simp only []
    have hx := hev x
    cases hv : evalOp tmps x <;> try trivial
    rw [hv] at hx
    cases hvx : ev x <;> rw [hvx] at hx <;> cases hx
    exact ⟨rfl, _, .iface _ _ _ (by assumption), by simp [Instr.panic]⟩
  | _ => trivial
end
end Go.AE

/-! AeStep1 -/
namespace Go.AE
variable [U : Unk]
set_option linter.unusedVariables false

/-! steps of the true machine, at any frame -/
section
variable {P : Program} {fr : Frame} {k : List Item} {cs : List Frame} {w : World}

theorem st_seq {a b : Code} (hm : fr.mode = .run) (ht : fr.todo = .code (.seq a b) :: k) : step P (lone fr cs w) = .next (lone { fr with todo := .code a :: .code b :: k } cs w) :=
  step_lone_go (by cases fr; simp only at hm ht; subst hm; subst ht; simp [stepG, stepG.exec])
theorem st_skip (hm : fr.mode = .run) (ht : fr.todo = .code .skip :: k) : step P (lone fr cs w) = .next (lone { fr with todo := k } cs w) :=
  step_lone_go (by cases fr; simp only at hm ht; subst hm; subst ht; simp [stepG, stepG.exec])
theorem st_label {l : Nat} (hm : fr.mode = .run) (ht : fr.todo = .code (.label l) :: k) : step P (lone fr cs w) = .next (lone { fr with todo := k } cs w) :=
  step_lone_go (by cases fr; simp only at hm ht; subst hm; subst ht; simp [stepG, stepG.exec])
theorem st_inBlock {l : Nat} (hm : fr.mode = .run) (ht : fr.todo = .inBlock l :: k) : step P (lone fr cs w) = .next (lone { fr with todo := k } cs w) :=
  step_lone_go (by cases fr; simp only at hm ht; subst hm; subst ht; simp [stepG, stepG.exec])
theorem st_inScope {l : Code} (hm : fr.mode = .run) (ht : fr.todo = .inScope l :: k) : step P (lone fr cs w) = .next (lone { fr with todo := k } cs w) :=
  step_lone_go (by cases fr; simp only at hm ht; subst hm; subst ht; simp [stepG, stepG.exec])
theorem st_cond {c : Operand} {x y : Code} {b : Bool} (hm : fr.mode = .run) (ht : fr.todo = .code (.cond c x y) :: k) (hc : fr.eval c = .bool b) : step P (lone fr cs w) = .next (lone { fr with todo := .code (if b then x else y) :: k } cs w) :=
  step_lone_go (by cases fr; simp only at hm ht; subst hm; subst ht; simp [stepG, stepG.exec, hc])
theorem st_block {id : Nat} {c : Code} (hm : fr.mode = .run) (ht : fr.todo = .code (.block id c) :: k) : step P (lone fr cs w) = .next (lone { fr with todo := .code c :: .inBlock id :: k } cs w) :=
  step_lone_go (by cases fr; simp only at hm ht; subst hm; subst ht; simp [stepG, stepG.exec])
theorem st_loop {c : Code} (hm : fr.mode = .run) (ht : fr.todo = .code (.loop c) :: k) : step P (lone fr cs w) = .next (lone { fr with todo := .code c :: .inLoop c :: k } cs w) :=
  step_lone_go (by cases fr; simp only at hm ht; subst hm; subst ht; simp [stepG, stepG.exec])
theorem st_inLoop {c : Code} (hm : fr.mode = .run) (ht : fr.todo = .inLoop c :: k) : step P (lone fr cs w) = .next (lone { fr with todo := .code c :: .inLoop c :: k } cs w) :=
  step_lone_go (by cases fr; simp only at hm ht; subst hm; subst ht; simp [stepG, stepG.exec])
theorem st_scope {c : Code} (hm : fr.mode = .run) (ht : fr.todo = .code (.scope c) :: k) : step P (lone fr cs w) = .next (lone { fr with todo := .code c :: .inScope c :: k } cs w) :=
  step_lone_go (by cases fr; simp only at hm ht; subst hm; subst ht; simp [stepG, stepG.exec])
theorem st_region {id : Nat} {ops : Array Oper} (hm : fr.mode = .run) (ht : fr.todo = .code (.region id ops false) :: k) : step P (lone fr cs w) = .next (lone { fr with todo := .inRegion ops (List.range ops.size) :: k } cs w) :=
  step_lone_go (by cases fr; simp only at hm ht; subst hm; subst ht; simp [stepG, stepG.exec])
theorem st_draw {id : Nat} {ops : Array Oper} (hm : fr.mode = .run) (ht : fr.todo = .code (.region id ops true) :: k) :
    step P (lone fr cs w) = .next (lone { fr with todo := .inRegion ops (Region.schedule (P.follows .mixedOrders) ops (w.tape w.drawn (.order fr.fn id))) :: k } cs { w with drawn := w.drawn + 1 }) :=
  step_lone_go (by cases fr; simp only at hm ht; subst hm; subst ht; simp [stepG, stepG.exec, choose, Sem.run, Question.forced, Question.cut])
theorem st_regionEnd {ops : Array Oper} (hm : fr.mode = .run) (ht : fr.todo = .inRegion ops [] :: k) : step P (lone fr cs w) = .next (lone { fr with todo := k } cs w) :=
  step_lone_go (by cases fr; simp only at hm ht; subst hm; subst ht; simp [stepG, stepG.exec])
theorem st_exit {id : Nat} {k' : List Item} (hm : fr.mode = .run) (ht : fr.todo = .code (.exit id) :: k) (hk : exitTo id k = some k') : step P (lone fr cs w) = .next (lone { fr with todo := k' } cs w) :=
  step_lone_go (by cases fr; simp only at hm ht; subst hm; subst ht; simp [stepG, stepG.exec, hk])
theorem st_goto {l : Nat} {k' : List Item} (hm : fr.mode = .run) (ht : fr.todo = .code (.goto l) :: k) (hk : gotoIn l k = some k') : step P (lone fr cs w) = .next (lone { fr with todo := k' } cs w) :=
  step_lone_go (by cases fr; simp only at hm ht; subst hm; subst ht; simp [stepG, stepG.exec, hk])
/-- the end of a body outside a round -/
theorem st_end (hm : fr.mode = .run) (ht : fr.todo = [] ∨ ∃ k, fr.todo = .code .ret :: k) (hr : fr.roundOf = none) : step P (lone fr cs w) = .next (lone { fr with mode := .returning } cs w) := by
  rcases ht with ht | ⟨k, ht⟩ <;>
  exact step_lone_go (by cases fr; simp only at hm ht hr; subst hm; subst ht; subst hr; simp [stepG, stepG.exec])
/-- the end of a round, by a jump or without one -/
theorem st_endRound {l : Nat} {jump : Option Code} {c : Frame} {w' : World} {v : Value} (hm : fr.mode = .run) (hr : fr.roundOf = some l) (hk : fr.kind = .normal)
    (ht : (fr.todo = [] ∧ jump = none) ∨ (∃ k, fr.todo = .code .ret :: k ∧ jump = some .ret) ∨ (∃ id k, fr.todo = .code (.exit id) :: k ∧ exitTo id k = none ∧ jump = some (.exit id)) ∨ (∃ l k, fr.todo = .code (.goto l) :: k ∧ gotoIn l k = none ∧ jump = some (.goto l)))
    (hrun : (Instr.endRound l jump).run P w = .ok v w') : step P (lone fr (c :: cs) w) = .next (lone (c.finish v) cs w') := by
  rcases ht with ⟨ht, rfl⟩ | ⟨k, ht, rfl⟩ | ⟨id, k, ht, he, rfl⟩ | ⟨l', k, ht, he, rfl⟩ <;>
  exact step_lone_go (by cases fr; simp only at hm ht hr hk; subst hm; subst ht; subst hr; subst hk; simp [stepG, stepG.exec, Sem.runT_eq, doReturn, *])

/-- an operation that is not wanted -/
theorem st_skipOp {ops : Array Oper} {i : Nat} {rest : List Nat} {o : Oper} (hm : fr.mode = .run) (ht : fr.todo = .inRegion ops (i :: rest) :: k) (ho : ops[i]? = some o) (hw : Region.wanted o (yielded ops fr.tmps) = false) :
    step P (lone fr cs w) = .next (lone (fr.finish undef) cs w) :=
  step_lone_go (by cases fr; simp only at hm ht; subst hm; subst ht; simp at hw; simp [stepG, stepG.exec, ho, hw])
/-- an operation's run -/
theorem stepG_any {ops : Array Oper} {i : Nat} {rest : List Nat} {o : Oper} (hm : fr.mode = .run) (ht : fr.todo = .inRegion ops (i :: rest) :: k) (ho : ops[i]? = some o) (hw : Region.wanted o (yielded ops fr.tmps) = true)
    (hd : fr.roundOf = none ∨ ∀ c, o.op ≠ .defer c) :
    stepG P true { frame := fr, callers := cs, status := .running, dying := none } w = stepG.apply P true fr cs none (execOp fr.eval o) w := by
  cases fr
  simp only at hm ht hd
  subst hm; subst ht
  simp at hw
  rcases hd with hd | hd
  · subst hd
    simp [stepG, stepG.exec, stepG.oper, Frame.oper?, ho, hw]
  · simp only [stepG, stepG.exec, ho, Option.map_some, hw, Option.getD_some, if_true, stepG.oper, Frame.oper?]
    split
    · rename_i c heq; exact absurd heq (hd c)
    · rfl
theorem st_val {ops : Array Oper} {i : Nat} {rest : List Nat} {o : Oper} {w' : World} {v : Value} (hm : fr.mode = .run) (ht : fr.todo = .inRegion ops (i :: rest) :: k) (ho : ops[i]? = some o) (hw : Region.wanted o (yielded ops fr.tmps) = true)
    (hd : fr.roundOf = none ∨ ∀ c, o.op ≠ .defer c) (hrun : (execOp fr.eval o).run P w = .ok (.value v) w' ∨ ((execOp fr.eval o).run P w = .ok .skip w' ∧ v = undef)) :
    step P (lone fr cs w) = .next (lone (fr.finish v) cs w') := by
  refine step_lone_go ?_
  rw [stepG_any hm ht ho hw hd]
  rcases hrun with hrun | ⟨hrun, rfl⟩ <;> simp [stepG.apply, hrun]
theorem st_enter {ops : Array Oper} {i : Nat} {rest : List Nat} {o : Oper} {f : FuncId} {args : Array Value} {w' : World} (hm : fr.mode = .run) (ht : fr.todo = .inRegion ops (i :: rest) :: k) (ho : ops[i]? = some o) (hw : Region.wanted o (yielded ops fr.tmps) = true)
    (hd : fr.roundOf = none ∨ ∀ c, o.op ≠ .defer c) (hrun : (execOp fr.eval o).run P w = .ok (.enter f args) w') : step P (lone fr cs w) = .next (lone (Frame.enter P f args .normal) (fr :: cs) w') := by
  refine step_lone_go ?_
  rw [stepG_any hm ht ho hw hd]
  simp [stepG.apply, hrun, ht]
theorem st_round {ops : Array Oper} {i : Nat} {rest : List Nat} {o : Oper} {l : Nat} {f : FuncId} {tmps : Array Value} {assign body : Code} {w' : World} (hm : fr.mode = .run) (ht : fr.todo = .inRegion ops (i :: rest) :: k) (ho : ops[i]? = some o) (hw : Region.wanted o (yielded ops fr.tmps) = true)
    (hd : fr.roundOf = none ∨ ∀ c, o.op ≠ .defer c) (hrun : (execOp fr.eval o).run P w = .ok (.round l f tmps assign body) w') : step P (lone fr cs w) = .next (lone (Frame.round l f tmps assign body .normal) (fr :: cs) w') := by
  refine step_lone_go ?_
  rw [stepG_any hm ht ho hw hd]
  simp [stepG.apply, hrun]
theorem st_defer {ops : Array Oper} {i : Nat} {rest : List Nat} {o : Oper} {d : Deferred} {w' : World} (hm : fr.mode = .run) (ht : fr.todo = .inRegion ops (i :: rest) :: k) (ho : ops[i]? = some o) (hw : Region.wanted o (yielded ops fr.tmps) = true)
    (hd : fr.roundOf = none) (hrun : (execOp fr.eval o).run P w = .ok (.defer d) w') : step P (lone fr cs w) = .next (lone ({ fr with defers := d :: fr.defers }.finish undef) cs w') := by
  refine step_lone_go ?_
  rw [stepG_any hm ht ho hw (.inl hd)]
  simp [stepG.apply, hrun]
theorem st_panic {ops : Array Oper} {i : Nat} {rest : List Nat} {o : Oper} {v : Value} {w' : World} (hm : fr.mode = .run) (ht : fr.todo = .inRegion ops (i :: rest) :: k) (ho : ops[i]? = some o) (hw : Region.wanted o (yielded ops fr.tmps) = true)
    (hd : fr.roundOf = none ∨ ∀ c, o.op ≠ .defer c) (hrun : (execOp fr.eval o).run P w = .halt (.panic v) w') : step P (lone fr cs w) = .next (lone { fr with mode := .panicking [{ v, recovered := false }] } cs w') := by
  refine step_lone_go ?_
  rw [stepG_any hm ht ho hw hd]
  simp [stepG.apply, hrun, Frame.raise, hm]
/-- what recover() finds in the caller's mode -/
theorem st_recover {ops : Array Oper} {i : Nat} {rest : List Nat} {o : Oper} {w' : World} {c : Frame} (hm : fr.mode = .run) (ht : fr.todo = .inRegion ops (i :: rest) :: k) (ho : ops[i]? = some o) (hw : Region.wanted o (yielded ops fr.tmps) = true)
    (hr : fr.roundOf = none) (hk : fr.kind = .deferred) (hrun : (execOp fr.eval o).run P w = .ok .recover w') :
    (∀ v older, c.mode = .panicking ({ v, recovered := false, goexit := false } :: older) → step P (lone fr (c :: cs) w) = .next (lone (fr.finish v) ({ c with mode := .panicking ({ v, recovered := true } :: older) } :: cs) w')) ∧
    ((∀ v older, c.mode ≠ .panicking ({ v, recovered := false, goexit := false } :: older)) → step P (lone fr (c :: cs) w) = .next (lone (fr.finish .nilIface) (c :: cs) w')) := by
  refine ⟨fun v older hc => step_lone_go ?_, fun hc => step_lone_go ?_⟩
  · rw [stepG_any hm ht ho hw (.inl hr)]
    simp [stepG.apply, hrun, hr, tryRecover, hk, hc]
  · rw [stepG_any hm ht ho hw (.inl hr)]
    have : tryRecover fr (c :: cs) = none := by
      simp only [tryRecover, hk]
    simp [stepG.apply, hrun, hr, this]

theorem st_beginRound {l : Nat} {w' : World} (hm : fr.mode = .run) (ht : fr.todo = .beginRound :: k) (hr : fr.roundOf = some l) (hrun : (Instr.beginRound l).run P w = .ok () w') :
    step P (lone fr cs w) = .next (lone { fr with todo := k } cs w') := by
  refine step_lone_go ?_
  cases fr
  simp only at hm ht hr
  subst hm; subst ht; subst hr
  simp [stepG, stepG.exec, stepG.apply, hrun, Frame.finish]
theorem st_endLoop {l : Nat} {w' : World} {jump : Option Code} (hm : fr.mode = .run) (ht : fr.todo = .endRangeFunc l :: k) (hrun : (Instr.endLoop l).run P w = .ok jump w') :
    step P (lone fr cs w) = .next (lone { fr with todo := (jump.map Item.code).toList ++ k } cs w') := by
  refine step_lone_go ?_
  cases fr
  simp only at hm ht
  subst hm; subst ht
  simp [stepG, stepG.exec, Sem.runT_eq, hrun]
/-- a range over a function: the loop's object is laid, the function is called -/
theorem stepG_range {f : Operand} {params : Array Tmp} {assign body : Code} {l : Nat} {mark : List Deferred} {w' : World} (hm : fr.mode = .run) (ht : fr.todo = .code (.rangeFunc f params assign body) :: k)
    (hrun : (Instr.enterLoop fr.fn fr.tmps params assign body fr.roundOf).run P w = .ok (l, mark) w') :
    (stepG P true { frame := fr, callers := cs, status := .running, dying := none } w).bare =
    (stepG.apply P true { fr with todo := .inRangeFunc l :: k, defers := mark ++ fr.defers } cs none (do let d ← resolve fr.eval { callee := .value f, args := #[.const (.func (.yield l) #[] #[])], argTypes := #[] } 0; invoke d.target d.args) w').bare := by
  cases fr
  simp only at hm ht hrun
  subst hm; subst ht
  simp only [stepG, stepG.exec, Sem.runT_eq, hrun, GStep.bare_after]
  congr 2

/-! the end of a frame -/
theorem st_call {d : Deferred} {ds : List Deferred} {f : FuncId} {args : Array Value} {w' : World} (hm : fr.mode ≠ .run) (hd : fr.defers = d :: ds) (hc : ∀ b, d.target ≠ .collected b) (hn : d.target ≠ .nil)
    (hrun : (invoke d.target d.args).run P w = .ok (.enter f args) w') : step P (lone fr cs w) = .next (lone (Frame.enter P f args .deferred) ({ fr with defers := ds } :: cs) w') := by
  refine step_lone_go ?_
  cases fr with | mk fn tmps todo defers mode kind roundOf =>
  cases d with | mk target dargs =>
  simp only at hm hd hc hn hrun
  subst hd
  cases mode with
  | run => exact absurd rfl hm
  | returning => cases target <;> first | exact absurd rfl hn | exact absurd rfl (hc _) | simp [stepG, unwind, callDeferred, Sem.runT_eq, hrun]
  | panicking ch => cases target <;> first | exact absurd rfl hn | exact absurd rfl (hc _) | simp [stepG, unwind, callDeferred, Sem.runT_eq, hrun]
theorem st_taken {b : Nat} {args : Array Value} {ds l : List Deferred} {w' : World} (hm : fr.mode ≠ .run) (hd : fr.defers = { target := .collected b, args } :: ds)
    (hrun : (Instr.takeDeferred b).run P w = .ok l w') : step P (lone fr cs w) = .next (lone { fr with defers := l ++ ds } cs w') := by
  refine step_lone_go ?_
  cases fr with | mk fn tmps todo defers mode kind roundOf =>
  simp only at hm hd
  subst hd
  cases mode with
  | run => exact absurd rfl hm
  | returning => simp [stepG, unwind, Sem.runT_eq, hrun]
  | panicking ch => simp [stepG, unwind, Sem.runT_eq, hrun]
theorem st_return {c : Frame} {v : Value} {fn : Func} (hm : fr.mode = .returning) (hd : fr.defers = []) (hf : P.funcs[fr.fn]? = some fn) (hr : (results fn fr.tmps).run P w = .ok v w) :
    (fr.kind = .normal → step P (lone fr (c :: cs) w) = .next (lone (c.finish v) cs w)) ∧
    (fr.kind = .deferred → (∀ x older, c.mode = .panicking ({ v := x, recovered := true } :: older) → (∀ y ∈ older, y.goexit = false) → step P (lone fr (c :: cs) w) = .next (lone { c with mode := .returning } cs w)) ∧
      ((∀ x g older, c.mode ≠ .panicking ({ v := x, recovered := true, goexit := g } :: older)) → step P (lone fr (c :: cs) w) = .next (lone c cs w))) := by
  refine ⟨fun hk => step_leave_returned ⟨hm, hd, hk, fn, hf, hr⟩, fun hk => ⟨fun x older hc ho => step_lone_go ?_, fun hc => step_lone_go ?_⟩⟩
  · have : older.dropWhile (!·.goexit) = [] := by
      clear hc
      induction older with
      | nil => rfl
      | cons y r ih =>
        rw [List.dropWhile_cons_of_pos (by simp [ho y (by simp)])]
        exact ih fun z hz => ho z (by simp [hz])
    simp [stepG, unwind, doReturn, hm, hd, hk, hf, hr, hc, this]
  · simp only [stepG, unwind, doReturn, hm, hd, hk, hf, Sem.runT_eq, hr, GStep.bare_after, GStep.bare_go]
end
end Go.AE

/-! AeStep2 -/
namespace Go.AE
set_option linter.unusedVariables false
section
variable [U : Vals]

/-! the relation of frames -/
inductive IR (ρ : Ren) : AI → Item → Prop
  | code (c : Code) : IR ρ (.code c) (.code c)
  | inBlock (id : Nat) : IR ρ (.inBlock id) (.inBlock id)
  | inLoop (b : Code) : IR ρ (.inLoop b) (.inLoop b)
  | inScope (b : Code) : IR ρ (.inScope b) (.inScope b)
  | ops (all : Array Oper) (rest : List Oper) (idx : List Nat) (h : rest.map some = idx.map fun i => all[i]?) : IR ρ (.ops all rest) (.inRegion all idx)
  | inRange (l : Nat) (base : Base) (h : ρ l = some base) : IR ρ (.inRange l) (.inRangeFunc base.cb)
  | endRange (l : Nat) (base : Base) (h : ρ l = some base) : IR ρ (.endRange l) (.endRangeFunc base.cb)
  | beginRound : IR ρ .beginRound .beginRound
  | dead (all : Array Oper) (idx : List Nat) : IR ρ .dead (.inRegion all idx)

inductive IL (ρ : Ren) : List AI → List Item → Prop
  | nil : IL ρ [] []
  | cons {a : AI} {x : Item} {l : List AI} {l' : List Item} (h : IR ρ a x) (k : IL ρ l l') : IL ρ (a :: l) (x :: l')
  | rest : IL ρ [.rest] U.R

def CL (ρ : Ren) : List (AV × Bool) → List PanicEntry → Prop
  | [], [] => True
  | a :: r, e :: r' => VR ρ a.1 e.v ∧ e.recovered = a.2 ∧ e.goexit = false ∧ CL ρ r r'
  | _, _ => False

inductive MR (ρ : Ren) : AMode → FrameMode → Prop
  | run : MR ρ .run .run
  | ret : MR ρ .ret .returning
  | panic (ch : List (AV × Bool)) (ch' : List PanicEntry) (h : CL ρ ch ch') : MR ρ (.panic ch) (.panicking ch')

def RR (ρ : Ren) : Option Nat → Option Nat → Prop
  | none, none => True
  | some l, some c => ∃ base, ρ l = some base ∧ c = base.cb
  | _, _ => False

structure FrR (ρ : Ren) (f : AF) (c : Frame) : Prop where
  fn : c.fn = f.fn
  tm : TR ρ f.nt f.tmps c.tmps
  todo : IL ρ f.todo c.todo
  defers : DL ρ f.defers c.defers
  mode : MR ρ f.mode c.mode
  kind : c.kind = f.kind
  round : RR ρ f.round c.roundOf

inductive FrL (ρ : Ren) : List AF → List Frame → Prop
  | nil : FrL ρ [] []
  | cons {f : AF} {c : Frame} {l : List AF} {l' : List Frame} (h : FrR ρ f c) (k : FrL ρ l l') : FrL ρ (f :: l) (c :: l')

theorem IR.mono {ρ σ : Ren} (hle : ρ.le σ) {a : AI} {x : Item} (h : IR ρ a x) : IR σ a x := by
  cases h with
  | code c => exact .code c
  | inBlock id => exact .inBlock id
  | inLoop b => exact .inLoop b
  | inScope b => exact .inScope b
  | ops all rest idx h => exact .ops all rest idx h
  | inRange l base h => exact .inRange l base (hle.m _ _ h)
  | endRange l base h => exact .endRange l base (hle.m _ _ h)
  | beginRound => exact .beginRound
  | dead all idx => exact .dead all idx
theorem IL.mono {ρ σ : Ren} (hle : ρ.le σ) {a : List AI} {x : List Item} (h : IL ρ a x) : IL σ a x := by
  induction h with
  | nil => exact .nil
  | cons h _ ih => exact .cons (h.mono hle) ih
  | rest => exact .rest
theorem CL.mono {ρ σ : Ren} (hle : ρ.le σ) : ∀ {l : List (AV × Bool)} {l' : List PanicEntry}, CL ρ l l' → CL σ l l'
  | [], [], _ => trivial
  | _ :: _, _ :: _, ⟨h1, h2, h3, h4⟩ => ⟨h1.mono hle, h2, h3, h4.mono hle⟩
theorem MR.mono {ρ σ : Ren} (hle : ρ.le σ) {a : AMode} {x : FrameMode} (h : MR ρ a x) : MR σ a x := by
  cases h with
  | run => exact .run
  | ret => exact .ret
  | panic ch ch' h => exact .panic ch ch' (h.mono hle)
theorem RR.mono {ρ σ : Ren} (hle : ρ.le σ) {a x : Option Nat} (h : RR ρ a x) : RR σ a x := by
  cases a <;> cases x <;> simp only [RR] at h ⊢
  obtain ⟨base, h1, h2⟩ := h
  exact ⟨base, hle.m _ _ h1, h2⟩
theorem FrR.mono {ρ σ : Ren} (hle : ρ.le σ) {f : AF} {c : Frame} (h : FrR ρ f c) : FrR σ f c :=
  ⟨h.fn, h.tm.mono hle, h.todo.mono hle, h.defers.mono hle, h.mode.mono hle, h.kind, h.round.mono hle⟩
theorem FrL.mono {ρ σ : Ren} (hle : ρ.le σ) {f : List AF} {c : List Frame} (h : FrL ρ f c) : FrL σ f c := by
  induction h with
  | nil => exact .nil
  | cons h _ ih => exact .cons (h.mono hle) ih

end
variable [U : Unk]
theorem FrR.evR {ρ : Ren} {f : AF} {c : Frame} (h : FrR ρ f c) : EvR ρ f.tmps c.eval := by
  intro o
  have := eval_ok h.tm o
  cases o <;> exact this

/-! temporaries -/
theorem TR.put {ρ : Ren} {nt : Nat} {t : T AV} {a : Array Value} (h : TR ρ nt t a) {d : Nat} {v : AV} {v' : Value} (hd : d < nt) (hv : VR ρ v v') : TR ρ nt (t.set d v) (a.setIfInBounds d v') := by
  refine ⟨by simp [h.size], fun i x hx => ?_⟩
  rw [T.get_set] at hx
  by_cases e : d = i
  · subst e
    rw [if_pos rfl] at hx
    cases hx
    have : d < a.size := by rw [h.size]; exact hd
    simpa [Array.getD_eq_getD_getElem?, this] using hv
  · rw [if_neg e] at hx
    have := h.get i x hx
    simpa [Array.getD_eq_getD_getElem?, Array.getElem?_setIfInBounds_ne e] using this
def putC (a : Array Value) (dst : Option Tmp) (v : Value) : Array Value := match dst with | some d => a.setIfInBounds d v | none => a
theorem putA_ok {ρ : Ren} {nt : Nat} {t t' : T AV} {a : Array Value} (h : TR ρ nt t a) {dst : Option Tmp} {v : AV} {v' : Value} (hp : putA nt t dst v = some t') (hv : VR ρ v v') :
    TR ρ nt t' (putC a dst v') := by
  cases dst with
  | none => simp only [putA, Option.some.injEq] at hp; subst hp; exact h
  | some d =>
    simp only [putA] at hp
    cases hb : Nat.blt d nt with
    | false => rw [hb] at hp; cases hp
    | true =>
      rw [hb] at hp
      simp only [Option.some.injEq] at hp
      subst hp
      exact h.put (by simpa [Nat.blt_eq] using hb) hv

theorem VR.not_bool {ρ : Ren} {a : AV} {v : Value} (h : VR ρ a v) (h1 : ∀ b, a ≠ .bool b) (h2 : a ≠ .top) (h3 : ∀ p e, a ≠ .sb p e) (b : Bool) : v ≠ .bool b := by
  cases h with
  | sb p e => exact absurd rfl (h3 p e)
  | top v => exact absurd rfl h2
  | bool c => exact absurd rfl (h1 c)
  | _ => exact fun e => by cases e

theorem wantedA_ok {ρ : Ren} {nt : Nat} {t : T AV} {a : Array Value} (h : TR ρ nt t a) {all : Array Oper} {o : Oper} {b : Bool} (hw : wantedA all o t = some b) : Region.wanted o (yielded all a) = b := by
  unfold wantedA at hw
  unfold Region.wanted
  cases hg : o.guard with
  | none => rw [hg] at hw; simpa using hw
  | some p =>
    obtain ⟨j, want⟩ := p
    rw [hg] at hw
    simp only at hw ⊢
    unfold yielded
    have ha : all[j]? = all.toList[j]? := by simp
    rw [ha]
    cases hj : all.toList[j]? with
    | none => rw [hj] at hw; simp at hw ⊢; exact hw
    | some g =>
      rw [hj] at hw
      simp only [Option.bind_some] at hw ⊢
      cases hd : g.dst with
      | none => rw [hd] at hw; simp at hw ⊢; exact hw
      | some d =>
        rw [hd] at hw
        simp only [Option.bind_some] at hw ⊢
        cases ht : t.get d with
        | none => rw [ht] at hw; cases hw
        | some v =>
          rw [ht] at hw
          have hv := h.get d v ht
          rw [Array.getD_eq_getD_getElem?] at hv
          have hnb : (∀ b, v ≠ .bool b) → v ≠ .top → (∀ p e, v ≠ .sb p e) → ((match a[d]? with | some (.bool b) => some b | _ => none) == some want) = false := by
            intro h1 h2 h3
            cases hx : a[d]? with
            | none => rfl
            | some x =>
              rw [hx] at hv
              cases x with
              | bool c => exact absurd rfl (hv.not_bool h1 h2 h3 c)
              | _ => rfl
          cases v with
          | top => cases hw
          | sb p e =>
            simp only at hw
            split at hw
            · rename_i q hq
              have he := decideB_ok U.ok hq
              simp only [Option.some.injEq] at hw
              cases hx : a[d]? with
              | none => rw [hx] at hv; cases hv
              | some x =>
                rw [hx] at hv
                cases hv
                rw [he]
                simpa using hw
            · cases hw
          | bool e =>
            simp only [Option.some.injEq] at hw
            cases hx : a[d]? with
            | none => rw [hx] at hv; cases hv
            | some x =>
              rw [hx] at hv
              cases hv
              subst hw
              simp
          | _ =>
            simp only [Option.some.injEq] at hw
            subst hw
            exact hnb (fun b e => by cases e) (fun e => by cases e) (fun p b e => by cases e)

end Go.AE

/-! AeStep3 -/
namespace Go.AE
variable [U : Unk]
set_option linter.unusedVariables false

/-! what is on top is done; frames of calls and of rounds -/
theorem IL.ops_inv {ρ : Ren} {all : Array Oper} {o : Oper} {rest : List Oper} {k : List AI} {l : List Item} (h : IL ρ (.ops all (o :: rest) :: k) l) :
    ∃ i idx k', l = .inRegion all (i :: idx) :: k' ∧ all[i]? = some o ∧ rest.map some = idx.map (fun i => all[i]?) ∧ IL ρ k k' := by
  cases h with
  | cons h hk =>
    cases h with
    | ops all rest idx h =>
      cases idx with
      | nil => cases h
      | cons i idx =>
        simp only [List.map_cons, List.cons.injEq] at h
        exact ⟨i, idx, _, rfl, h.1.symm, h.2, hk⟩

theorem finishA_ok {ρ : Ren} {f f' : AF} {c : Frame} (h : FrR ρ f c) {v : AV} {v' : Value} (hf : finishA f v = some f') (hv : VR ρ v v') : FrR ρ f' (c.finish v') := by
  have htodo := h.todo
  unfold finishA at hf
  split at hf
  · rename_i all o rest k ht
    rw [ht] at htodo
    obtain ⟨i, idx, k', e, ho, hm, hk⟩ := htodo.ops_inv
    split at hf
    · rename_i t hp
      simp only [Option.some.injEq] at hf
      subst hf
      have := putA_ok h.tm hp hv
      have ef : c.finish v' = { c with tmps := putC c.tmps o.dst v', todo := .inRegion all idx :: k' } := by
        simp only [Frame.finish, e, ho, Option.bind_some, putC]
        cases o.dst <;> rfl
      rw [ef]
      exact ⟨h.fn, this, .cons (.ops _ _ _ hm) hk, h.defers, h.mode, h.kind, h.round⟩
    · cases hf
  · rename_i l k ht
    rw [ht] at htodo
    simp only [Option.some.injEq] at hf
    subst hf
    generalize hl : c.todo = l' at htodo
    cases htodo with
    | cons a hk =>
      cases a with
      | inRange l base hb =>
        simp only [Frame.finish, hl]
        exact ⟨h.fn, h.tm, .cons (.endRange _ _ hb) hk, h.defers, h.mode, h.kind, h.round⟩
  · rename_i k ht
    rw [ht] at htodo
    simp only [Option.some.injEq] at hf
    subst hf
    generalize hl : c.todo = l' at htodo
    cases htodo with
    | cons a hk =>
      cases a with
      | beginRound =>
        simp only [Frame.finish, hl]
        exact ⟨h.fn, h.tm, hk, h.defers, h.mode, h.kind, h.round⟩
  · cases hf

theorem TR.ofArgs {ρ : Ren} {n : Nat} {args : List AV} {args' : List Value} (ha : VL ρ args args') : TR ρ (max n args.length) (.ofList args) (args'.toArray ++ Array.replicate (n - args'.toArray.size) undef) := by
  have hl := ha.1
  refine ⟨by simp; omega, fun i x hx => ?_⟩
  rw [T.get_ofList] at hx
  obtain ⟨v, hv, hvr⟩ := ha.get hx
  have hi : i < args'.length := (List.getElem?_eq_some_iff.1 hv).1
  rw [Array.getD_eq_getD_getElem?, Array.getElem?_append_left (by simpa using hi)]
  simpa [hv] using hvr

theorem enterF_ok {E : Env} (hE : OK E) {ρ : Ren} {f : FuncId} {args : List AV} {args' : List Value} {kind : CallKind} {g : AF} (hg : enterF E f args kind = some g) (ha : VL ρ args args') :
    FrR ρ g (Frame.enter E.P f args'.toArray kind) := by
  unfold enterF at hg
  split at hg
  · rename_i fn hf
    split at hg
    · rename_i c hc
      simp only [Option.some.injEq] at hg
      subst hg
      have e : Frame.enter E.P f args'.toArray kind = { fn := f, tmps := args'.toArray ++ Array.replicate (fn.ntmps - args'.toArray.size) undef, todo := [.code c], defers := [], mode := .run, kind } := by
        simp [Frame.enter, hE.fn f fn hf, hc]
      rw [e]
      exact ⟨rfl, TR.ofArgs ha, .cons (.code c) .nil, trivial, .run, rfl, trivial⟩
    · cases hg
  · cases hg

theorem setParams_ok {ρ : Ren} {nt : Nat} : ∀ {ps : List Tmp} {t t' : T AV} {tm : Array Value} {args : List AV} {args' : List Value}, TR ρ nt t tm → VL ρ args args' → setParams nt t ps args = some t' →
    args'.length = ps.length ∧ TR ρ nt t' ((ps.zip args').foldl (fun tmps x => tmps.setIfInBounds x.1 x.2) tm)
  | [], t, t', tm, [], args', h, ha, hs => by
    cases ha.nil_inv
    simp only [setParams, Option.some.injEq] at hs
    subst hs
    exact ⟨rfl, h⟩
  | [], t, t', tm, _ :: _, args', h, ha, hs => by cases hs
  | _ :: _, t, t', tm, [], args', h, ha, hs => by cases hs
  | p :: ps, t, t', tm, a :: as, args', h, ha, hs => by
    obtain ⟨v, r, rfl, h1, h2⟩ := ha.cons_inv
    simp only [setParams] at hs
    cases hb : Nat.blt p nt with
    | false => rw [hb] at hs; cases hs
    | true =>
      rw [hb] at hs
      obtain ⟨q1, q2⟩ := setParams_ok (h.put (by simpa [Nat.blt_eq] using hb) h1) h2 hs
      exact ⟨by simp [q1], q2⟩

theorem roundF_ok {E : Env} {ρ : Ren} {h : AHeap} {w : World} (hr : HR ρ h.blk.get w) {l : Nat} {base : Base} {args : List AV} {args' : List Value} {g : AF} (hb : ρ l = some base) (hg : roundF l args h = some g) (ha : VL ρ args args') :
    ∃ fn tm assign body, (Instr.yield base.cb args'.toArray).run E.P w = .ok (.round base.cb fn tm assign body) w ∧ FrR ρ g (Frame.round base.cb fn tm assign body .normal) := by
  unfold roundF at hg
  split at hg
  · rename_i st pending fn nt tmps params assign body d hl
    split at hg
    · rename_i t hs
      simp only [Option.some.injEq] at hg
      subst hg
      obtain ⟨tm, bd, h1, h2, h3⟩ := hr.blk l base _ hb hl
      obtain ⟨q1, q2⟩ := setParams_ok h2 ha hs
      refine ⟨fn, _, assign, body, ?_, ⟨rfl, q2, .cons (.code _) (.cons .beginRound (.cons (.code _) .nil)), trivial, .run, rfl, ⟨base, hb, rfl⟩⟩⟩
      have hgo := run_getObj E.P h3 (fun _ _ _ e => by cases e)
      simp only [Instr.yield, Instr.getLoop, Sem.run_bind, hgo, Result.andThen_ok, Sem.run_pure]
      simp [q1]
    · cases hg
  · cases hg
end Go.AE

/-! AeStep4 -/
namespace Go.AE
set_option linter.unusedVariables false
section
variable [U : Vals]

structure SR (ρ : Ren) (s : AS) (cf : Frame) (ccs : List Frame) (w : World) : Prop where
  fr : FrR ρ s.fr cf
  cs : FrL ρ s.cs ccs
  h : HR ρ s.h.blk.get w

end
variable [U : Unk]
/-- one step of the true machine beside one of the abstract one -/
def Steps1 (P : Program) (base : List Frame) (ρ : Ren) (h : AHeap) (fr0 : Frame) (ccs : List Frame) (w0 w : World) (s' : AS) : Prop :=
  ∃ σ cf' ccs' w', step P (lone fr0 (ccs ++ base) w0) = .next (lone cf' (ccs' ++ base) w') ∧ SR σ s' cf' ccs' w' ∧ Ext ρ σ h s'.h w w'

theorem IL.not_call {ρ : Ren} {l : List AI} {l' : List Item} (h : IL ρ l l') (d : Deferred) (b : Bool) (r : String) (a : Array Value) (k : List Item) : l' ≠ .call d b r a :: k := by
  intro e
  cases h with
  | nil => cases e
  | cons h _ => cases e; cases h
  | rest => exact U.hR _ _ _ _ _ e
section
variable {E : Env} (hE : OK E) {ρ : Ren} {h : AHeap} {w w0 : World} {fr0 c : Frame} {f : AF} {cs : List AF} {ccs base : List Frame} {s : Sem Next} {r : Res} {s' : AS}
include hE

theorem applyA_ok (hst : (stepG E.P true { frame := fr0, callers := ccs ++ base, status := .running, dying := none } w0).bare = (stepG.apply E.P true c (ccs ++ base) none s w).bare)
    (hd : Does E ρ h w s r) (hr : HR ρ h.blk.get w) (hf : FrR ρ f c) (hcs : FrL ρ cs ccs) (hm : c.mode = .run) (hx : applyA E f cs r = .next s') (hfree : Free ρ h.nx s'.h.nx) :
    Steps1 E.P base ρ h fr0 ccs w0 w s' := by
  cases r with
  | val v h' =>
    simp only [applyA] at hx
    split at hx
    · rename_i f' hff
      cases hx
      obtain ⟨σ, v', w', q1, q2, q3, q4⟩ := hd hfree
      refine ⟨σ, c.finish v', ccs, w', step_lone_go ?_, ⟨finishA_ok (hf.mono q4.le) hff q2, hcs.mono q4.le, q3⟩, q4⟩
      rw [hst]
      rcases q1 with q1 | ⟨q1, rfl⟩ <;> simp [stepG.apply, q1]
    · cases hx
  | enter g args h' =>
    obtain ⟨rfl, args', ha, hrun⟩ := hd
    simp only [applyA] at hx
    split at hx
    · rename_i g' hg
      cases hx
      refine ⟨ρ, _, c :: ccs, w, step_lone_go ?_, ⟨enterF_ok hE hg ha, .cons hf hcs, hr⟩, Ext.refl _ _ _⟩
      rw [hst]
      have ht := hf.todo
      simp only [stepG.apply, Sem.runT_eq, hrun, if_true, GStep.bare_after, GStep.bare_go, List.cons_append]
      generalize c.todo = td at ht
      generalize f.todo = fd at ht
      cases ht with
      | nil => rfl
      | cons a _ => cases a <;> rfl
      | rest =>
        generalize hq : U.R = r
        cases r with
        | nil => rfl
        | cons x k => cases x <;> first | rfl | exact absurd hq (U.hR _ _ _ _ _)
    · cases hx
  | round l args h' =>
    obtain ⟨rfl, lb, args', hb, ha, hrun⟩ := hd
    simp only [applyA] at hx
    split at hx
    · rename_i g' hg
      cases hx
      obtain ⟨fn, tm, assign, body, q1, q2⟩ := roundF_ok (E := E) hr hb hg ha
      refine ⟨ρ, _, c :: ccs, w, step_lone_go ?_, ⟨q2, .cons hf hcs, hr⟩, Ext.refl _ _ _⟩
      rw [hst]
      simp [stepG.apply, hrun, q1]
    · cases hx
  | defer d h' =>
    obtain ⟨rfl, d', hdr, hrun⟩ := hd
    simp only [applyA] at hx
    split at hx
    · cases hx
    · split at hx
      · rename_i f' hff
        cases hx
        have hfin := finishA_ok hf hff (VR.undef ρ)
        refine ⟨ρ, { c with defers := d' :: c.defers }.finish undef, ccs, w, step_lone_go ?_, ⟨?_, hcs, hr⟩, Ext.refl _ _ _⟩
        · rw [hst]
          simp [stepG.apply, hrun]
        · have e : ({ c with defers := d' :: c.defers } : Frame).finish undef = { c.finish undef with defers := d' :: (c.finish undef).defers } := by
            unfold Frame.finish
            simp only
            split <;> rfl
          rw [e]
          exact ⟨hfin.fn, hfin.tm, hfin.todo, ⟨hdr, hfin.defers⟩, hfin.mode, hfin.kind, hfin.round⟩
      · cases hx
  | recover h' =>
    obtain ⟨rfl, hrun⟩ := hd
    simp only [applyA] at hx
    split at hx
    · rename_i a rest hround hkind
      have hk : c.kind = .deferred := hf.kind.trans hkind
      have hro : c.roundOf = none := by
        have := hf.round
        rw [hround] at this
        cases hc : c.roundOf with
        | none => rfl
        | some l => rw [hc] at this; exact this.elim
      cases hcs with
      | cons ha hrest =>
        rename_i cc crest
        have hmode := ha.mode
        split at hx
        · rename_i v older hma
          split at hx
          · rename_i f' hff
            cases hx
            rw [hma] at hmode
            generalize hcm : cc.mode = cm at hmode
            cases hmode with
            | panic _ ch' hch =>
              cases ch' with
              | nil => exact hch.elim
              | cons e older' =>
                obtain ⟨h1, h2, h3, h4⟩ := hch
                obtain ⟨ev, er, eg⟩ := e
                simp only at h1 h2 h3
                subst h2; subst h3
                refine ⟨ρ, c.finish ev, { cc with mode := .panicking ({ v := ev, recovered := true } :: older') } :: crest, w, step_lone_go ?_, ⟨finishA_ok hf hff h1, .cons ⟨ha.fn, ha.tm, ha.todo, ha.defers, .panic _ _ ⟨h1, rfl, rfl, h4⟩, ha.kind, ha.round⟩ hrest, hr⟩, Ext.refl _ _ _⟩
                rw [hst]
                simp [stepG.apply, hrun, hro, tryRecover, hk, hcm]
          · cases hx
        · rename_i hne
          split at hx
          · rename_i f' hff
            cases hx
            refine ⟨ρ, c.finish .nilIface, cc :: crest, w, step_lone_go ?_, ⟨finishA_ok hf hff .nilIface, .cons ha hrest, hr⟩, Ext.refl _ _ _⟩
            rw [hst]
            have : tryRecover c (cc :: (crest ++ base)) = none := by
              have hno : ∀ v older, cc.mode ≠ .panicking ({ v, recovered := false, goexit := false } :: older) := by
                intro v older he
                rw [he] at hmode
                generalize ham : a.mode = am at hmode
                cases hmode with
                | panic ch _ hch =>
                  cases ch with
                  | nil => exact hch.elim
                  | cons x r =>
                    obtain ⟨xv, xb⟩ := x
                    obtain ⟨h1, h2, h3, h4⟩ := hch
                    simp only at h2
                    subst h2
                    exact hne _ _ ham
              simp only [tryRecover, hk]
            simp [stepG.apply, hrun, hro, this]
          · cases hx
    · cases hx
  | panic v h' =>
    obtain ⟨rfl, v', hv, hrun⟩ := hd
    simp only [applyA] at hx
    split at hx
    · cases hx
      refine ⟨ρ, { c with mode := .panicking [{ v := v', recovered := false }] }, ccs, w, step_lone_go ?_, ⟨⟨hf.fn, hf.tm, hf.todo, hf.defers, .panic _ _ ⟨hv, rfl, rfl, trivial⟩, hf.kind, hf.round⟩, hcs, hr⟩, Ext.refl _ _ _⟩
      rw [hst]
      simp [stepG.apply, hrun, Frame.raise, hm]
    · cases hx
  | bad y => cases hx
end
end Go.AE

/-! AeStep5 -/
namespace Go.AE
variable [U : Unk]
set_option linter.unusedVariables false

theorem exitA_ok {ρ : Ren} {id : Nat} {k : List AI} {k' : List Item} (h : IL ρ k k') : (∀ r, exitA id k = some r → ∃ r', exitTo id k' = some r' ∧ IL ρ r r') ∧ (exitA id k = none → hasRest k = false → exitTo id k' = none) := by
  induction h with
  | nil => exact ⟨(fun r h => by cases h), fun _ _ => rfl⟩
  | rest => exact ⟨(fun r h => by cases h), (fun _ h => by cases h)⟩
  | cons h hk ih =>
    cases h with
    | inBlock i =>
      simp only [exitA, exitTo]
      cases hb : Nat.beq i id with
      | true =>
        have := beqT hb
        subst this
        exact ⟨fun r hr => ⟨_, if_pos (by simp), by cases hr; exact hk⟩, (fun hr _ => by cases hr)⟩
      | false =>
        have hne : (i == id) = false := by simpa using beqF hb
        rw [hne]
        exact ih
    | _ => exact ih
theorem gotoA_ok {ρ : Ren} {l : Nat} {k : List AI} {k' : List Item} (h : IL ρ k k') : (∀ r, gotoA l k = some r → ∃ r', gotoIn l k' = some r' ∧ IL ρ r r') ∧ (gotoA l k = none → hasRest k = false → gotoIn l k' = none) := by
  induction h with
  | nil => exact ⟨(fun r h => by cases h), fun _ _ => rfl⟩
  | rest => exact ⟨(fun r h => by cases h), (fun _ h => by cases h)⟩
  | cons h hk ih =>
    cases h with
    | inScope b =>
      simp only [gotoA, gotoIn]
      cases hb : findLabel b l with
      | some rest => exact ⟨fun r hr => ⟨_, rfl, by cases hr; exact .cons (.code _) (.cons (.inScope _) hk)⟩, (fun hr _ => by cases hr)⟩
      | none => exact ih
    | _ => exact ih

theorem CL.calm {ρ : Ren} : ∀ {l : List (AV × Bool)} {l' : List PanicEntry}, CL ρ l l' → ∀ y ∈ l', y.goexit = false
  | [], [], _, y, hy => by cases hy
  | _ :: _, e :: r, ⟨h1, h2, h3, h4⟩, y, hy => by
    rcases List.mem_cons.1 hy with rfl | hy
    · exact h3
    · exact CL.calm h4 y hy
theorem dropCalm : ∀ (l : List PanicEntry), (∀ y ∈ l, y.goexit = false) → l.dropWhile (!·.goexit) = []
  | [], _ => rfl
  | y :: r, h => by
    rw [List.dropWhile_cons_of_pos (by simp [h y (by simp)])]
    exact dropCalm r fun z hz => h z (by simp [hz])

section
variable {E : Env} (hE : OK E) {ρ : Ren} {h : AHeap} {w w0 : World} {fr0 c : Frame} {f : AF} {cs : List AF} {ccs base : List Frame} {s' : AS}

theorem returnA_ok {v : AV} {v' : Value} (hst : (stepG E.P true { frame := fr0, callers := ccs ++ base, status := .running, dying := none } w0).bare = (doReturn E.P true c (ccs ++ base) none v' w).bare)
    (hr : HR ρ h.blk.get w) (hk : c.kind = f.kind) (hcs : FrL ρ cs ccs) (hv : VR ρ v v') (hx : returnA f cs v h = .next s') : Steps1 E.P base ρ h fr0 ccs w0 w s' := by
  unfold returnA at hx
  cases hcs with
  | nil =>
    simp only at hx
    split at hx <;> cases hx
  | cons ha hrest =>
    rename_i a cc rest crest
    simp only at hx
    split at hx
    · rename_i hkind
      split at hx
      · rename_i c' hff
        cases hx
        refine ⟨ρ, _, crest, w, step_lone_go ?_, ⟨finishA_ok ha hff hv, hrest, hr⟩, Ext.refl _ _ _⟩
        rw [hst]
        simp [doReturn, hk, hkind]
      · cases hx
    · rename_i hkind
      have hmode := ha.mode
      split at hx
      · rename_i x older hma
        cases hx
        rw [hma] at hmode
        generalize hcm : cc.mode = cm at hmode
        cases hmode with
        | panic _ ch' hch =>
          cases ch' with
          | nil => exact hch.elim
          | cons e older' =>
            have hcalm := hch.calm
            obtain ⟨h1, h2, h3, h4⟩ := hch
            obtain ⟨ev, er, eg⟩ := e
            simp only at h1 h2 h3
            subst h2; subst h3
            refine ⟨ρ, { cc with mode := .returning }, crest, w, step_lone_go ?_, ⟨⟨ha.fn, ha.tm, ha.todo, ha.defers, .ret, ha.kind, ha.round⟩, hrest, hr⟩, Ext.refl _ _ _⟩
            rw [hst]
            simp [doReturn, hk, hkind, hcm, dropCalm older' fun y hy => hcalm y (by simp [hy])]
      · rename_i hne
        cases hx
        refine ⟨ρ, _, crest, w, step_lone_go ?_, ⟨ha, hrest, hr⟩, Ext.refl _ _ _⟩
        rw [hst]
        have hno : ∀ x g older, cc.mode ≠ .panicking ({ v := x, recovered := true, goexit := g } :: older) := by
          intro x g older he
          rw [he] at hmode
          generalize ham : a.mode = am at hmode
          cases hmode with
          | panic ch _ hch =>
            cases ch with
            | nil => exact hch.elim
            | cons x r =>
              obtain ⟨xv, xb⟩ := x
              obtain ⟨h1, h2, h3, h4⟩ := hch
              simp only at h2
              subst h2
              exact hne _ _ ham
        simp only [List.cons_append, doReturn, hk, hkind, GStep.bare_go]
    · cases hx

include hE
theorem resultsA_ok (hr : HR ρ h.blk.get w) (hf : FrR ρ f c) : ∀ {rs : List ResultVar} {l : List AV}, resultsA E f h rs = some l →
    ∃ l' : List Value, VL ρ l l' ∧ (rs.mapM fun | .tmp t => pure (c.tmps.getD t undef) | .cell a t => do loadVar t (← asAddr (c.tmps.getD a undef)) : Sem (List Value)).run E.P w = .ok l' w
  | [], l, hs => by
    simp only [resultsA, Option.some.injEq] at hs
    subst hs
    exact ⟨[], VL.nil ρ, by simp⟩
  | .tmp t :: r, l, hs => by
    simp only [resultsA] at hs
    cases hq : resultsA E f h r with
    | none => rw [hq] at hs; cases hs
    | some l1 =>
      rw [hq] at hs
      simp only [Option.some.injEq] at hs
      subst hs
      obtain ⟨l', q1, q2⟩ := resultsA_ok hr hf hq
      refine ⟨c.tmps.getD t undef :: l', VL.cons ?_ q1, ?_⟩
      · cases hg : f.tmps.get t with
        | none => exact .top _
        | some a => exact hf.tm.get t a hg
      · simp only [List.mapM_cons, Sem.run_bind, Sem.run_pure, Result.andThen_ok, q2]
  | .cell a t :: r, l, hs => by
    simp only [resultsA] at hs
    cases hg : f.tmps.get a with
    | none => rw [hg] at hs; cases hs
    | some p =>
      rw [hg] at hs
      simp only at hs
      cases hl : loadA E t p h with
      | none => rw [hl] at hs; cases hs
      | some v =>
        cases hq : resultsA E f h r with
        | none => rw [hl, hq] at hs; cases hs
        | some l1 =>
          rw [hl, hq] at hs
          simp only [Option.some.injEq] at hs
          subst hs
          obtain ⟨l', q1, q2⟩ := resultsA_ok hr hf hq
          have hp := hf.tm.get a p hg
          obtain ⟨v', p1, p2⟩ := loadA_ok hE hr hp hl
          refine ⟨v' :: l', VL.cons p2 q1, ?_⟩
          have : (do loadVar t (← asAddr (c.tmps.getD a undef)) : Sem Value).run E.P w = .ok v' w := by
            generalize c.tmps.getD a undef = x at p1 hp
            cases x with
            | pointer o => cases o with
              | none => simp [Instr.loadAt, Instr.sureAddr, stuck] at p1
              | some y => simpa [Instr.loadAt, Instr.sureAddr, asAddr] using p1
            | _ => simp [Instr.loadAt, Instr.sureAddr, stuck] at p1
          simp only [List.mapM_cons, Sem.run_bind, Sem.run_pure] at this ⊢
          rw [this]
          simp only [Result.andThen_ok, q2]

theorem results_ok (hr : HR ρ h.blk.get w) (hf : FrR ρ f c) {fn : Func} {l : List AV} (hs : resultsA E f h fn.results.toList = some l) :
    ∃ v', (results fn c.tmps).run E.P w = .ok v' w ∧ (∀ a, l = [a] → VR ρ a v') ∧ ((∀ a, l ≠ [a]) → VR ρ (.tuple l) v') := by
  obtain ⟨l', q1, q2⟩ := resultsA_ok hE hr hf hs
  unfold results
  rw [Array.mapM_eq_mapM_toList]
  simp only [Sem.run_bind, Sem.run_map, Sem.run_pure]
  refine ⟨if h : l'.toArray.size = 1 then l'.toArray[0] else .tuple l'.toArray, ?_, ?_, ?_⟩
  · have key : ∀ R : Result (List Value), R = .ok l' w → ((R.andThen fun a w' => Result.ok a.toArray w').andThen fun a w' => Result.ok (if h : a.size = 1 then a[0] else Value.tuple a) w') =
        Result.ok (if h : l'.toArray.size = 1 then l'.toArray[0] else Value.tuple l'.toArray) w := by rintro _ rfl; rfl
    refine key _ ?_
    rw [← q2]
    congr 2
  · rintro a rfl
    obtain ⟨v, r, rfl, h1, h2⟩ := q1.cons_inv
    cases h2.nil_inv
    simpa using h1
  · intro hne
    have : l'.toArray.size ≠ 1 := by
      intro he
      have hl := q1.1
      simp only [List.size_toArray] at he
      rw [he] at hl
      obtain ⟨a, rfl⟩ := List.length_eq_one_iff.1 hl
      exact hne a rfl
    rw [dif_neg this]
    exact .tuple _ _ q1.1 q1.2
end
end Go.AE

/-! AeStep6 -/
namespace Go.AE
variable [U : Unk]
set_option linter.unusedVariables false

theorem Steps1.pre {P : Program} {base : List Frame} {ρ σ : Ren} {h h1 : AHeap} {fr0 : Frame} {ccs : List Frame} {w0 w w1 : World} {s' : AS} (e : Ext ρ σ h h1 w w1) (st : Steps1 P base σ h1 fr0 ccs w0 w1 s') (hf : Free ρ h.nx s'.h.nx) :
    Steps1 P base ρ h fr0 ccs w0 w s' := by
  obtain ⟨τ, cf', ccs', w', q1, q2, q3⟩ := st
  exact ⟨τ, cf', ccs', w', q1, q2, e.trans q3 hf⟩

section
variable {P : Program} {fr : Frame} {k : List Item} {cs : List Frame} {w : World}
theorem stepG_endRound {l : Nat} {jump : Option Code} {w' : World} {v : Value} (hm : fr.mode = .run) (hr : fr.roundOf = some l)
    (ht : (fr.todo = [] ∧ jump = none) ∨ (∃ k, fr.todo = .code .ret :: k ∧ jump = some .ret) ∨ (∃ id k, fr.todo = .code (.exit id) :: k ∧ exitTo id k = none ∧ jump = some (.exit id)) ∨ (∃ l k, fr.todo = .code (.goto l) :: k ∧ gotoIn l k = none ∧ jump = some (.goto l)))
    (hrun : (Instr.endRound l jump).run P w = .ok v w') : (stepG P true { frame := fr, callers := cs, status := .running, dying := none } w).bare = (doReturn P true fr cs none v w').bare := by
  rcases ht with ⟨ht, rfl⟩ | ⟨k, ht, rfl⟩ | ⟨id, k, ht, he, rfl⟩ | ⟨l', k, ht, he, rfl⟩ <;>
  (cases fr; simp only at hm ht hr; subst hm; subst ht; subst hr; simp [stepG, stepG.exec, Sem.runT_eq, *])
theorem stepG_return {v : Value} {fn : Func} (hm : fr.mode = .returning) (hd : fr.defers = []) (hf : P.funcs[fr.fn]? = some fn) (hr : (results fn fr.tmps).run P w = .ok v w) :
    (stepG P true { frame := fr, callers := cs, status := .running, dying := none } w).bare = (doReturn P true fr cs none v w).bare := by
  simp [stepG, unwind, hm, hd, hf, Sem.runT_eq, hr]
theorem st_up {c : Frame} {chain : List PanicEntry} (hm : fr.mode = .panicking chain) (hd : fr.defers = []) (ht : ∀ d b r a k, fr.todo ≠ .call d b r a :: k) : step P (lone fr (c :: cs) w) = .next (lone (c.raise chain) cs w) := by
  have hc : fr.catches P = false := by
    unfold Frame.catches
    split
    · rename_i h1 h2; exact absurd h2 (ht _ _ _ _ _)
    · rfl
  exact step_lone_go (by simp [stepG, unwind, hm, hd, hc])
end

section
variable {E : Env} (hE : OK E) {ρ : Ren} {h : AHeap} {w : World} {c : Frame} {f : AF} {cs : List AF} {ccs base : List Frame} {s' : AS}

theorem endRound_ok (hr : HR ρ h.blk.get w) {l : Nat} {b : Base} {st : LoopState} {pending : Option Code} {fn : FuncId} {nt : Nat} {tmps : T AV} {params : List Tmp} {assign body : Code} {d : Nat} (hb : ρ l = some b)
    (hl : h.blk.get l = some (.loop st pending fn nt tmps params assign body d)) (jump : Option Code) :
    ∃ w', (Instr.endRound b.cb jump).run E.P w = .ok (.bool jump.isNone) w' ∧ HR ρ (h.put l (.loop (if jump.isNone then .ready else .done) jump fn nt tmps params assign body d)).blk.get w' ∧
      Ext ρ ρ h (h.put l (.loop (if jump.isNone then .ready else .done) jump fn nt tmps params assign body d)) w w' := by
  obtain ⟨tm, bd, h1, h2, h3⟩ := hr.blk l b _ hb hl
  have hg := run_getObj E.P h3 (fun _ _ _ e => by cases e)
  obtain ⟨q1, q2⟩ := hr.setObj hb (by rw [hl]; exact fun e => by cases e) (.loop (if jump.isNone then .ready else .done) jump fn nt tmps params assign body d)
    (.loop { state := if jump.isNone then .ready else .done, pending := jump, fn := fn, tmps := tm, params := params.toArray, assign := assign, body := body, defers := bd.cb }) ⟨tm, bd, h1, h2, rfl⟩
  refine ⟨_, ?_, q1, q2⟩
  have hs := fun o' => run_setObj (o' := o') E.P h3 (fun _ _ _ e => by cases e)
  simp only [Instr.endRound, Instr.getLoop, Sem.run_bind, hg, Result.andThen_ok, Sem.run_pure, hs]

theorem RR.none_inv {ρ : Ren} {x : Option Nat} (h : RR ρ none x) : x = none := by
  cases x with
  | none => rfl
  | some l => exact h.elim
theorem RR.some_inv {ρ : Ren} {l : Nat} {x : Option Nat} (h : RR ρ (some l) x) : ∃ b, ρ l = some b ∧ x = some b.cb := by
  cases x with
  | none => exact h.elim
  | some c => obtain ⟨b, h1, rfl⟩ := h; exact ⟨b, h1, rfl⟩

theorem leaveA_ok (hr : HR ρ h.blk.get w) (hf : FrR ρ f c) (hcs : FrL ρ cs ccs) (hm : c.mode = .run) {jump : Option Code}
    (ht : (c.todo = [] ∧ jump = none) ∨ (∃ k, c.todo = .code .ret :: k ∧ jump = some .ret) ∨ (∃ id k, c.todo = .code (.exit id) :: k ∧ exitTo id k = none ∧ jump = some (.exit id)) ∨ (∃ l k, c.todo = .code (.goto l) :: k ∧ gotoIn l k = none ∧ jump = some (.goto l)))
    (hx : leaveA f cs h jump = .next s') (hfree : Free ρ h.nx s'.h.nx) : Steps1 E.P base ρ h c ccs w w s' := by
  have hround := hf.round
  unfold leaveA at hx
  split at hx
  · rename_i hrn
    rw [hrn] at hround
    have hro := hround.none_inv
    have hto : c.todo = [] ∨ ∃ k, c.todo = .code .ret :: k := by
      rcases ht with ⟨ht, _⟩ | ⟨k, ht, _⟩ | ⟨id, k, ht, he, rfl⟩ | ⟨l', k, ht, he, rfl⟩
      · exact .inl ht
      · exact .inr ⟨k, ht⟩
      · cases hx
      · cases hx
    have hs : s' = { fr := { f with mode := .ret }, cs, h } := by
      split at hx
      · cases hx; rfl
      · cases hx; rfl
      · cases hx
    subst hs
    exact ⟨ρ, _, ccs, w, st_end hm hto hro, ⟨⟨hf.fn, hf.tm, hf.todo, hf.defers, .ret, hf.kind, hf.round⟩, hcs, hr⟩, Ext.refl _ _ _⟩
  · rename_i l hrs
    rw [hrs] at hround
    obtain ⟨b, hb, hro⟩ := hround.some_inv
    split at hx
    · rename_i st pending fn nt tmps params assign body d hl
      obtain ⟨w', q1, q2, q3⟩ := endRound_ok (E := E) hr hb hl jump
      exact Steps1.pre q3 (returnA_ok (stepG_endRound hm hro ht q1) q2 hf.kind hcs (.bool _) hx) hfree
    · cases hx

include hE
theorem unwindA_ok (hr : HR ρ h.blk.get w) (hf : FrR ρ f c) (hcs : FrL ρ cs ccs) (hm : c.mode ≠ .run) (hx : unwindA E f cs h = .next s') : Steps1 E.P base ρ h c ccs w w s' := by
  have hdef := hf.defers
  unfold unwindA at hx
  split at hx
  · rename_i d ds hfd
    rw [hfd] at hdef
    cases hcd : c.defers with
    | nil => rw [hcd] at hdef; exact hdef.elim
    | cons d' ds' =>
      rw [hcd] at hdef
      obtain ⟨hdr, hds⟩ := hdef
      unfold DR at hdr
      split at hx
      · rename_i hfn
        rw [hfn] at hdr
        obtain ⟨b, hb, rfl⟩ := hdr
        split at hx
        · rename_i l hl
          cases hx
          obtain ⟨l', q1, q2⟩ := hr.blk _ b _ hb hl
          obtain ⟨p1, p2⟩ := hr.setObj hb (by rw [hl]; exact fun e => by cases e) (.deferred none) (.deferred none) rfl
          refine ⟨ρ, _, ccs, _, st_taken hm hcd ?_, ⟨⟨hf.fn, hf.tm, hf.todo, q1.append hds, hf.mode, hf.kind, hf.round⟩, hcs, p1⟩, p2⟩
          have hg := run_getObj E.P q2 (fun _ _ _ e => by cases e)
          have hs := run_setObj (o' := .deferred none) E.P q2 (fun _ _ _ e => by cases e)
          simp only [Instr.takeDeferred, Sem.run_bind, hg, Result.andThen_ok, Sem.run_pure, hs]
        · cases hx
      · rename_i fn hfn
        rw [hfn] at hdr
        obtain ⟨fn', c', a', h1, h2, h3, rfl⟩ := hdr
        have hi := invokeA_ok hE hr h1 h2 h3
        split at hx
        · rename_i g args h' hiv
          rw [hiv] at hi
          obtain ⟨rfl, args', ha, hrun⟩ := hi
          split at hx
          · rename_i gf hg
            cases hx
            exact ⟨ρ, _, { c with defers := ds' } :: ccs, w, st_call hm hcd (fun b e => by cases e) (fun e => by cases e) hrun, ⟨enterF_ok hE hg ha, .cons ⟨hf.fn, hf.tm, hf.todo, hds, hf.mode, hf.kind, hf.round⟩ hcs, hr⟩, Ext.refl _ _ _⟩
          · cases hx
        · cases hx
  · rename_i hfd
    rw [hfd] at hdef
    have hcd : c.defers = [] := by
      cases hcd : c.defers with
      | nil => rfl
      | cons d' ds' => rw [hcd] at hdef; exact hdef.elim
    have hmode := hf.mode
    split at hx
    · cases hx
    · rename_i chain hfm
      rw [hfm] at hmode
      generalize hcm : c.mode = cm at hmode
      cases hmode with
      | panic _ ch' hch =>
        cases hcs with
        | nil =>
          simp only at hx
          split at hx
          · split at hx <;> cases hx
          · cases hx
        | cons ha hrest =>
          rename_i a cc rest crest
          simp only at hx
          split at hx
          · rename_i ham
            cases hx
            have hamode := ha.mode
            rw [ham] at hamode
            have hccm : cc.mode = .run := by
              generalize cc.mode = x at hamode
              cases hamode; rfl
            refine ⟨ρ, _, crest, w, st_up hcm hcd (fun d b r a k => hf.todo.not_call d b r a k), ⟨?_, hrest, hr⟩, Ext.refl _ _ _⟩
            have e : cc.raise ch' = { cc with mode := .panicking ch' } := by simp [Frame.raise, hccm]
            rw [e]
            exact ⟨ha.fn, ha.tm, ha.todo, ha.defers, .panic _ _ hch, ha.kind, ha.round⟩
          · cases hx
    · rename_i hfm
      rw [hfm] at hmode
      have hcm : c.mode = .returning := by
        generalize c.mode = x at hmode
        cases hmode; rfl
      split at hx
      · rename_i fn hfn
        have hfn' : E.P.funcs[c.fn]? = some fn := by rw [hf.fn]; exact hE.fn _ _ hfn
        split at hx
        · rename_i v hrs
          obtain ⟨v', p1, p2, p3⟩ := results_ok hE hr hf hrs
          exact returnA_ok (stepG_return hcm hcd hfn' p1) hr hf.kind hcs (p2 _ rfl) hx
        · rename_i l hne hrs
          obtain ⟨v', p1, p2, p3⟩ := results_ok hE hr hf hrs
          exact returnA_ok (stepG_return hcm hcd hfn' p1) hr hf.kind hcs (p3 fun a e => hne a (by rw [e])) hx
        · cases hx
      · cases hx
end
end Go.AE

/-! AeStep7 -/
namespace Go.AE
variable [U : Unk]
set_option linter.unusedVariables false

section
variable {E : Env} (hE : OK E) {ρ : Ren} {h : AHeap} {w : World} {c : Frame} {f : AF} {cs : List AF} {ccs base : List Frame} {s s' : AS}

/-- a step that changes what is to do, and no more -/
theorem Steps1.to {P : Program} (hsr : SR ρ s c ccs w) {k : List AI} {k' : List Item} (hk : IL ρ k k') (hst : step P (lone c (ccs ++ base) w) = .next (lone { c with todo := k' } (ccs ++ base) w)) :
    Steps1 P base ρ s.h c ccs w w { s with fr := { s.fr with todo := k } } :=
  ⟨ρ, _, ccs, w, hst, ⟨⟨hsr.fr.fn, hsr.fr.tm, hk, hsr.fr.defers, hsr.fr.mode, hsr.fr.kind, hsr.fr.round⟩, hsr.cs, hsr.h⟩, Ext.refl _ _ _⟩

theorem ops_range (ops : Array Oper) : ops.toList.map some = (List.range ops.size).map fun i => ops[i]? := by
  apply List.ext_getElem (by simp)
  intro i h1 h2
  simp at h1
  simp [h1]

theorem deferOp_shape (tmps : T AV) (c : Call) (h : AHeap) : (∃ d, deferOp tmps c h = .defer d h) ∨ ∃ y, deferOp tmps c h = .bad y := by
  unfold deferOp
  split
  · split
    · exact .inl ⟨_, rfl⟩
    · exact .inr ⟨_, rfl⟩
  · exact .inr ⟨_, rfl⟩

theorem AMode.not_run {ρ : Ren} {a : AMode} {m : FrameMode} (h : MR ρ a m) (ha : a ≠ .run) : m ≠ .run := by
  cases h with
  | run => exact absurd rfl ha
  | ret => exact fun e => by cases e
  | panic => exact fun e => by cases e

include hE
theorem op_ok (hsr : SR ρ s c ccs w) (hm : c.mode = .run) (hmf : s.fr.mode = .run) {all : Array Oper} {o : Oper} {rest : List Oper} {k : List AI} (ht : s.fr.todo = .ops all (o :: rest) :: k)
    (hx : (match wantedA all o s.fr.tmps with
      | some true => applyA E s.fr s.cs (aop E s.fr.tmps s.h o.op)
      | some false => applyA E s.fr s.cs (.val .undef s.h)
      | none => .bad "wanted") = .next s') (hfree : Free ρ s.h.nx s'.h.nx) : Steps1 E.P base ρ s.h c ccs w w s' := by
  have htodo := hsr.fr.todo
  rw [ht] at htodo
  obtain ⟨i, idx, k', e, ho, hmap, hk⟩ := htodo.ops_inv
  split at hx
  · rename_i hw
    have hwt := wantedA_ok hsr.fr.tm hw
    have hd : c.roundOf = none ∨ ∀ cl, o.op ≠ .defer cl := by
      cases hop : o.op with
      | defer cl =>
        left
        have hround := hsr.fr.round
        rcases deferOp_shape s.fr.tmps cl s.h with ⟨d, hq⟩ | ⟨y, hq⟩
        · have haop : aop E s.fr.tmps s.h o.op = .defer d s.h := by rw [hop]; simpa [aop] using hq
          rw [haop] at hx
          simp only [applyA] at hx
          split at hx
          · cases hx
          · rename_i hrn
            rw [hrn] at hround
            exact hround.none_inv
        · have haop : aop E s.fr.tmps s.h o.op = .bad y := by rw [hop]; simpa [aop] using hq
          rw [haop] at hx
          cases hx
      | _ => exact .inr fun cl e => by cases e
    exact applyA_ok hE (by rw [stepG_any hm e ho hwt hd]) (aop_ok hE hsr.h hsr.fr.evR o) hsr.h hsr.fr hsr.cs hm hx hfree
  · rename_i hw
    have hwt := wantedA_ok hsr.fr.tm hw
    simp only [applyA] at hx
    split at hx
    · rename_i f' hff
      cases hx
      exact ⟨ρ, _, ccs, w, st_skipOp hm e ho hwt, ⟨finishA_ok hsr.fr hff (VR.undef ρ), hsr.cs, hsr.h⟩, Ext.refl _ _ _⟩
    · cases hx
  · cases hx

omit hE in
theorem Does.congr {s t : Sem Next} {r : Res} (e : s.run E.P w = t.run E.P w) (d : Does E ρ h w t r) : Does E ρ h w s r := by
  cases r with
  | bad y => trivial
  | _ => simpa only [Does, e] using d
/-- where the deferred calls are collected -/
def collC (around : Option Nat) : Sem (Nat × List Deferred) := match around with
    | some l => do pure ((← Instr.getLoop l).defers, [])
    | none => do
      let r ← newObj (.deferred (some []))
      pure (r, [{ target := .collected r, args := #[] }])

omit hE in
theorem collA_ok (hr : HR ρ h.blk.get w) (hf : FrR ρ f c) {d : Nat} {h1 : AHeap} {mark : List AD} (hc : collA f h = some (d, h1, mark)) (hfree : Free ρ h.nx h1.nx) :
    ∃ σ w1 bd mark', (collC c.roundOf).run E.P w = .ok (bd.cb, mark') w1 ∧ σ d = some bd ∧ DL σ mark mark' ∧ HR σ h1.blk.get w1 ∧ Ext ρ σ h h1 w w1 := by
  have hround := hf.round
  unfold collA at hc
  split at hc
  · rename_i l hrs
    rw [hrs] at hround
    obtain ⟨b, hb, hro⟩ := hround.some_inv
    split at hc
    · rename_i hl
      simp only [Option.some.injEq, Prod.mk.injEq] at hc
      obtain ⟨rfl, rfl, rfl⟩ := hc
      obtain ⟨tm, bd, q1, q2, q3⟩ := hr.blk l b _ hb hl
      have hg := run_getObj E.P q3 (fun _ _ _ e => by cases e)
      refine ⟨ρ, w, bd, [], ?_, q1, trivial, hr, Ext.refl _ _ _⟩
      simp only [hro, collC, Instr.getLoop, Sem.run_bind, hg, Result.andThen_ok, Sem.run_pure]
    · cases hc
  · rename_i hrn
    rw [hrn] at hround
    have hro := hround.none_inv
    simp only [Option.some.injEq, Prod.mk.injEq] at hc
    obtain ⟨rfl, rfl, rfl⟩ := hc
    obtain ⟨q1, q2⟩ := hr.new (hfree h.nx (Nat.le_refl _) (by simp [AHeap.new])) (.deferred (some [])) (.deferred (some [])) 0 ⟨[], trivial, rfl⟩ { w with heap := w.heap.push (.deferred (some [])) } rfl rfl rfl rfl
    have hu : (ρ.upd h.nx ⟨w.heap.size, 0, 0⟩) h.nx = some ⟨w.heap.size, 0, 0⟩ := by simp [Ren.upd]
    refine ⟨_, _, ⟨w.heap.size, 0, 0⟩, [{ target := .collected w.heap.size, args := #[] }], ?_, hu, ⟨⟨_, hu, rfl⟩, trivial⟩, q1, q2⟩
    simp only [hro, collC, Sem.run_bind, run_newObj, Result.andThen_ok, Sem.run_pure]

theorem range_ok (hsr : SR ρ s c ccs w) (hm : c.mode = .run) {fo : Operand} {params : Array Tmp} {assign body : Code} {k : List AI} {k' : List Item} (hk : IL ρ k k') (ht : c.todo = .code (.rangeFunc fo params assign body) :: k')
    (hx : rangeFn E s fo params.toList assign body k = .next s') (hfree : Free ρ s.h.nx s'.h.nx) : Steps1 E.P base ρ s.h c ccs w w s' := by
  unfold rangeFn at hx
  split at hx
  · rename_i d h1 mark hcoll
    split at hx
    · rename_i fn first captured hev
      split at hx
      · rename_i g args h3 hiv
        split at hx
        · rename_i gf hg
          cases hx
          have hn1 : (h1.new (.loop .ready none s.fr.fn s.fr.nt s.fr.tmps params.toList assign body d)).nx = h1.nx + 1 := rfl
          obtain ⟨σ, w1, bd, mark', q1, q2, q3, q4, q5⟩ := collA_ok (E := E) hsr.h hsr.fr hcoll (fun b h1 h2 => hfree b h1 (by simp only [hn1]; omega))
          have hfr := hsr.fr.mono q5.le
          have hfree1 : σ h1.nx = none := (q5.free hfree) h1.nx (Nat.le_refl _) (by simp only [hn1]; omega)
          have hle := Ren.le_upd hfree1 ⟨w1.heap.size, 0, 0⟩
          obtain ⟨p1, p2⟩ := q4.new hfree1 (.loop .ready none s.fr.fn s.fr.nt s.fr.tmps params.toList assign body d)
            (.loop { state := .ready, pending := none, fn := c.fn, tmps := c.tmps, params := params, assign := assign, body := body, defers := bd.cb }) 0
            ⟨c.tmps, bd, hle.m _ _ q2, hfr.tm.mono hle, by rw [hfr.fn]⟩
            { w1 with heap := w1.heap.push (.loop { state := .ready, pending := none, fn := c.fn, tmps := c.tmps, params := params, assign := assign, body := body, defers := bd.cb }) } rfl rfl rfl rfl
          have hu : (σ.upd h1.nx ⟨w1.heap.size, 0, 0⟩) h1.nx = some ⟨w1.heap.size, 0, 0⟩ := by simp [Ren.upd]
          have hrun : (Instr.enterLoop c.fn c.tmps params assign body c.roundOf).run E.P w = .ok (w1.heap.size, mark') { w1 with heap := w1.heap.push (.loop { state := .ready, pending := none, fn := c.fn, tmps := c.tmps, params := params, assign := assign, body := body, defers := bd.cb }) } := by
            cases hro : c.roundOf with
            | some l =>
              rw [hro] at q1
              simp only [collC, Sem.run_bind, Sem.run_pure] at q1
              simp only [Instr.enterLoop, Sem.run_bind, Sem.run_pure, run_newObj, Result.andThen_ok]
              cases hG : (Instr.getLoop l).run E.P w with
              | ok a w2 =>
                rw [hG] at q1
                simp only [Result.andThen_ok, Result.ok.injEq, Prod.mk.injEq] at q1 ⊢
                obtain ⟨⟨e1, e2⟩, e3⟩ := q1
                rw [e1, e2, e3]
                exact ⟨⟨rfl, rfl⟩, rfl⟩
              | halt x w2 => rw [hG] at q1; cases q1
            | none =>
              rw [hro] at q1
              simp only [collC, Sem.run_bind, Sem.run_pure, run_newObj, Result.andThen_ok, Result.ok.injEq, Prod.mk.injEq] at q1
              obtain ⟨⟨e1, e2⟩, e3⟩ := q1
              simp only [Instr.enterLoop, Sem.run_bind, Sem.run_pure, run_newObj, Result.andThen_ok]
              rw [← e1, ← e2, ← e3]
          refine Steps1.pre (q5.trans p2 hfree) ?_ hfree
          have hf2 := hfr.mono hle
          have hv := hf2.evR fo
          rw [hev] at hv
          generalize hcv : c.eval fo = cv at hv
          cases hv with
          | func _ fn' _ _ f' c' r1 r2 r3 r4 r5 =>
            have ha : VL (σ.upd h1.nx ⟨w1.heap.size, 0, 0⟩) (first ++ [.func (.yield h1.nx) [] []]) (f' ++ [.func (.yield w1.heap.size) #[] #[]]) :=
              VL.append ⟨r2, r3⟩ (VL.cons (.func _ _ [] [] [] [] ⟨_, hu, rfl⟩ rfl (by simp) rfl (by simp)) (VL.nil _))
            have hdoes := invokeA_ok hE p1 r1 ⟨r4, r5⟩ ha
            rw [hiv] at hdoes
            have he : h3 = _ := hdoes.1
            subst he
            refine applyA_ok hE (c := { c with todo := .inRangeFunc w1.heap.size :: k', defers := mark' ++ c.defers })
              (f := { s.fr with todo := .inRange h1.nx :: k, defers := mark ++ s.fr.defers }) (cs := s.cs) (stepG_range hm ht hrun) (hdoes.congr ?_) p1
              ⟨hf2.fn, hf2.tm, .cons (.inRange _ _ hu) ((hk.mono q5.le).mono hle), (q3.mono hle).append hf2.defers, hf2.mode, hf2.kind, hf2.round⟩ ((hsr.cs.mono q5.le).mono hle) hm ?_ (fun b l1 l2 => absurd (Nat.lt_of_le_of_lt l1 l2) (Nat.lt_irrefl _))
            · have hcv2 : c.eval (.const (.func (.yield w1.heap.size) #[] #[])) = .func (.yield w1.heap.size) #[] #[] := rfl
              simp [resolve, hcv, hcv2, Deferred.ofValue]
            · simp only [applyA, hg]
        · cases hx
      · cases hx
    · cases hx
  · cases hx

theorem stepA_ok (hsr : SR ρ s c ccs w) (hx : stepA E s = .next s') (hfree : Free ρ s.h.nx s'.h.nx) : Steps1 E.P base ρ s.h c ccs w w s' := by
  have hmode := hsr.fr.mode
  have htodo := hsr.fr.todo
  unfold stepA at hx
  simp only at hx
  split at hx
  · rename_i hmf
    rw [hmf] at hmode
    have hm : c.mode = .run := by
      generalize c.mode = x at hmode
      cases hmode; rfl
    split at hx
    · rename_i ht
      rw [ht] at htodo
      generalize hct : c.todo = td at htodo
      cases htodo
      exact leaveA_ok hsr.h hsr.fr hsr.cs hm (.inl ⟨hct, rfl⟩) hx hfree
    · rename_i id k ht
      rw [ht] at htodo
      generalize hct : c.todo = td at htodo
      cases htodo with | cons a hk =>
      cases a
      cases hx
      exact Steps1.to hsr hk (st_inBlock hm hct)
    · rename_i id k ht
      rw [ht] at htodo
      generalize hct : c.todo = td at htodo
      cases htodo with | cons a hk =>
      cases a
      cases hx
      exact Steps1.to hsr hk (st_inScope hm hct)
    · rename_i b k ht
      rw [ht] at htodo
      generalize hct : c.todo = td at htodo
      cases htodo with | cons a hk =>
      cases a
      cases hx
      exact Steps1.to hsr (.cons (.code _) (.cons (.inLoop _) hk)) (st_inLoop hm hct)
    · rename_i all k ht
      rw [ht] at htodo
      generalize hct : c.todo = td at htodo
      cases htodo with | cons a hk =>
      cases a with | ops _ _ idx hmap =>
      cases idx with
      | cons i idx => cases hmap
      | nil =>
        cases hx
        exact Steps1.to hsr hk (st_regionEnd hm hct)
    · rename_i all o rest k ht
      exact op_ok hE hsr hm hmf ht hx hfree
    · cases hx
    · cases hx
    · cases hx
    · rename_i l k ht
      rw [ht] at htodo
      generalize hct : c.todo = td at htodo
      cases htodo with | cons a hk =>
      cases a with | endRange _ b hb =>
      split at hx
      · rename_i st pending fn nt tmps params assign body d hl
        split at hx
        · cases hx
        · rename_i hnb
          cases hx
          obtain ⟨tm, bd, h1, h2, h3⟩ := hsr.h.blk l b _ hb hl
          have hg := run_getObj E.P h3 (fun _ _ _ e => by cases e)
          obtain ⟨q1, q2⟩ := hsr.h.setObj hb (by rw [hl]; exact fun e => by cases e) (.loop .exhausted pending fn nt tmps params assign body d)
            (.loop { state := .exhausted, pending, fn := fn, tmps := tm, params := params.toArray, assign := assign, body := body, defers := bd.cb }) ⟨tm, bd, h1, h2, rfl⟩
          have hs := fun o' => run_setObj (o' := o') E.P h3 (fun _ _ _ e => by cases e)
          have hbz : (st == LoopState.busy) = false := by
            cases st <;> first | rfl | exact absurd rfl hnb
          have hrun : (Instr.endLoop b.cb).run E.P w = .ok pending { w with heap := w.heap.setIfInBounds b.cb (.loop { state := .exhausted, pending, fn := fn, tmps := tm, params := params.toArray, assign := assign, body := body, defers := bd.cb }) } := by
            simp only [Instr.endLoop, Instr.getLoop, Sem.run_bind, hg, Result.andThen_ok, Sem.run_pure, hbz, Bool.false_eq_true, if_false, hs]
          refine ⟨ρ, _, ccs, _, st_endLoop hm hct hrun, ⟨⟨hsr.fr.fn, hsr.fr.tm, ?_, hsr.fr.defers, hsr.fr.mode, hsr.fr.kind, hsr.fr.round⟩, hsr.cs, q1⟩, q2⟩
          cases pending with
          | none => exact hk
          | some j => exact .cons (.code _) hk
      · cases hx
    · rename_i k ht
      rw [ht] at htodo
      generalize hct : c.todo = td at htodo
      cases htodo with | cons a hk =>
      cases a
      have hround := hsr.fr.round
      split at hx
      · rename_i l hrs
        rw [hrs] at hround
        obtain ⟨b, hb, hro⟩ := hround.some_inv
        split at hx
        · rename_i pending fn nt tmps params assign body d hl
          cases hx
          obtain ⟨tm, bd, h1, h2, h3⟩ := hsr.h.blk l b _ hb hl
          have hg := run_getObj E.P h3 (fun _ _ _ e => by cases e)
          obtain ⟨q1, q2⟩ := hsr.h.setObj hb (by rw [hl]; exact fun e => by cases e) (.loop .busy pending fn nt tmps params assign body d)
            (.loop { state := .busy, pending, fn := fn, tmps := tm, params := params.toArray, assign := assign, body := body, defers := bd.cb }) ⟨tm, bd, h1, h2, rfl⟩
          have hs := fun o' => run_setObj (o' := o') E.P h3 (fun _ _ _ e => by cases e)
          refine ⟨ρ, _, ccs, _, st_beginRound hm hct hro ?_, ⟨⟨hsr.fr.fn, hsr.fr.tm, hk, hsr.fr.defers, hsr.fr.mode, hsr.fr.kind, hsr.fr.round⟩, hsr.cs, q1⟩, q2⟩
          simp only [Instr.beginRound, Instr.getLoop, Sem.run_bind, hg, Result.andThen_ok, Sem.run_pure, hs]
        · cases hx
      · cases hx
    · rename_i cd k ht
      rw [ht] at htodo
      generalize hct : c.todo = td at htodo
      cases htodo with | cons a hk =>
      cases a
      split at hx
      · exact leaveA_ok hsr.h hsr.fr hsr.cs hm (.inr (.inl ⟨_, hct, rfl⟩)) hx hfree
      · cases hx; exact Steps1.to hsr hk (st_skip hm hct)
      · cases hx; exact Steps1.to hsr hk (st_label hm hct)
      · cases hx; exact Steps1.to hsr (.cons (.code _) (.cons (.code _) hk)) (st_seq hm hct)
      · rename_i cnd x y
        have hv := hsr.fr.evR cnd
        split at hx
        · rename_i he
          rw [he] at hv
          generalize hcv : c.eval cnd = cv at hv
          cases hv
          cases hx
          exact Steps1.to hsr (.cons (.code _) hk) (st_cond hm hct hcv)
        · rename_i he
          rw [he] at hv
          generalize hcv : c.eval cnd = cv at hv
          cases hv
          cases hx
          exact Steps1.to hsr (.cons (.code _) hk) (st_cond hm hct hcv)
        · rename_i pos e he
          rw [he] at hv
          generalize hcv : c.eval cnd = cv at hv
          cases hv
          split at hx
          · rename_i q hq
            have hd := decideB_ok U.ok hq
            rw [hd] at hcv
            split at hx
            · rename_i hp
              rw [hp] at hcv
              cases hx
              exact Steps1.to hsr (.cons (.code _) hk) (st_cond hm hct hcv)
            · rename_i hp
              rw [hp] at hcv
              cases hx
              exact Steps1.to hsr (.cons (.code _) hk) (st_cond hm hct hcv)
          · cases hx
        · cases hx
      · cases hx; exact Steps1.to hsr (.cons (.code _) (.cons (.inBlock _) hk)) (st_block hm hct)
      · cases hx; exact Steps1.to hsr (.cons (.code _) (.cons (.inLoop _) hk)) (st_loop hm hct)
      · cases hx; exact Steps1.to hsr (.cons (.code _) (.cons (.inScope _) hk)) (st_scope hm hct)
      · rename_i id
        split at hx
        · rename_i k2 he
          cases hx
          obtain ⟨r', h1, h2⟩ := (exitA_ok hk).1 _ he
          exact Steps1.to hsr h2 (st_exit hm hct h1)
        · rename_i he
          split at hx
          · cases hx
          · rename_i hre
            exact leaveA_ok hsr.h hsr.fr hsr.cs hm (.inr (.inr (.inl ⟨_, _, hct, (exitA_ok hk).2 he hre, rfl⟩))) hx hfree
      · rename_i id
        split at hx
        · rename_i k2 he
          cases hx
          obtain ⟨r', h1, h2⟩ := (gotoA_ok hk).1 _ he
          exact Steps1.to hsr h2 (st_goto hm hct h1)
        · rename_i he
          split at hx
          · cases hx
          · rename_i hre
            exact leaveA_ok hsr.h hsr.fr hsr.cs hm (.inr (.inr (.inr ⟨_, _, hct, (gotoA_ok hk).2 he hre, rfl⟩))) hx hfree
      · exact range_ok hE hsr hm hk hct hx hfree
      · rename_i id ops draw
        split at hx
        · cases hx
          exact Steps1.to hsr (.cons (.ops _ _ _ (ops_range _)) hk) (st_region hm hct)
        · cases hx
      · cases hx
  · rename_i hmf
    exact unwindA_ok hE hsr.h hsr.fr hsr.cs (AMode.not_run hmode hmf) hx
end
end Go.AE
