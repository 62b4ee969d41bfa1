/- What is proved here: an evaluator of the model's steps that the kernel can run, and that whatever it answers is what the model does (part 3 of 6: AeOps18, AeDat1, AeDat2, AeDat3, AeDat4, AeFrz, AeDat5, AeSlc, AeEqS, AeMap). Conditions: those that each theorem states; they hold of no one program. -/
import Derived.Test.YthkffgljlhjggaaGreatBeB
import Derived.Laws.BytesString
set_option linter.unusedVariables false
set_option linter.unusedSectionVars false
set_option linter.unusedSimpArgs false
namespace Go.AE
variable [U : Unk]
def EJ (E : Env) (ρ : Ren) (h : Aa) (w : World) (s : Sem Next) : Res → Prop
 | .val v h' => Bg ρ h.nx h'.nx → ∃ σ v' w', (s.run E.P w = .ok (.value v') w' ∨ (s.run E.P w = .ok .skip w' ∧ v' = Go.undef)) ∧ VR σ v v' ∧ HR σ h'.blk.get w' ∧ Ext ρ σ h h' w w'
 | .enter f args h' => h' = h ∧ ∃ args' : List Value, VL ρ args args' ∧ s.run E.P w = .ok (.enter f args'.toArray) w
 | .round l args h' => h' = h ∧ ∃ base, ∃ args' : List Value, ρ l = some base ∧ VL ρ args args' ∧ s.run E.P w = (Instr.yield base.cb args'.toArray).run E.P w
 | .defer d h' => h' = h ∧ ∃ d', DR ρ d d' ∧ s.run E.P w = .ok (.defer d') w
 | .recover h' => h' = h ∧ s.run E.P w = .ok .recover w
 | .panic v h' => h' = h ∧ ∃ v', VR ρ v v' ∧ s.run E.P w = .halt (.panic v') w
 | .bad _ => True
section
variable {E : Env} (hE : OK E) {ρ : Ren} {h : Aa} {w : World}
theorem BF {s : Sem Value} {why : String} {o : Option (AV × Aa)} (ho : ∀ a h', o = some (a, h') → Bg ρ h.nx h'.nx → A7 E ρ h h' w s a) :
  EJ E ρ h w (do pure (.value (← s))) (E9 why o) := by
 cases o with
 | none => trivial
 | some p =>
  obtain ⟨a, h'⟩ := p;intro hf;obtain ⟨σ, v, w', q1, q2, q3, q4⟩ := ho a h' rfl hf;exact ⟨σ, v, w', .inl (by simp [q1]), q2, q3, q4⟩
theorem Bb (hr : HR ρ h.blk.get w) {s : Sem Value} {why : String} {o : Option AV} (ho : ∀ a, o = some a → ∃ v, s.run E.P w = .ok v w ∧ VR ρ a v) :
  EJ E ρ h w (do pure (.value (← s))) (D8 h why o) := by
 cases o with
 | none => trivial
 | some a =>
  intro hf;obtain ⟨v, q1, q2⟩ := ho a rfl;exact ⟨ρ, v, w, .inl (by simp [q1]), q2, hr, Ext.refl ρ h w⟩
theorem IY {s : Sem Unit} {why : String} {o : Option Aa} (ho : ∀ h', o = some h' → ∃ w', s.run E.P w = .ok () w' ∧ HR ρ h'.blk.get w' ∧ Ext ρ ρ h h' w w') :
  EJ E ρ h w (do s; pure .skip) (FK why o) := by
 cases o with
 | none => trivial
 | some h' =>
  intro hf;obtain ⟨w', q1, q2, q3⟩ := ho h' rfl;exact ⟨ρ, Go.undef, w', .inr ⟨by simp [q1], rfl⟩, VR.undef ρ, q2, q3⟩
include hE
theorem QD (hr : HR ρ h.blk.get w) {f : FuncId} {fn : Func} (hfn : E.fn.get f = some fn) (hb : fn.body = none) {args : List AV} {args' : List Value} (ha : VL ρ args args') :
  EJ E ρ h w (callFunc f args'.toArray) (NU fn.name args h) := by
 have hfun := hE.fn f fn hfn;have hnum := hE.num f fn hfn;unfold NU;split
 ·rename_i hn;obtain ⟨c1, c2⟩ := hE.clone f fn hfn hb hn;split
  ·rename_i t r;obtain ⟨v, l, rfl, hv, hl⟩ := ha.cons_inv;have := hl.nil_inv;subst this;cases hv with
   | iface t a v hv =>
    cases hv with
    | map b base hbs =>
     cases hg : h.blk.get r with
     | none => trivial
     | some y =>
      cases y with
      | map es clock =>
       intro hf;obtain ⟨es', e1, e2⟩ := hr.blk r base _ hbs hg;have hget := AC (w := w) E.P e1 (by simp)
       have hfree : ρ h.nx = none := hf h.nx (Nat.le_refl _) (by simp [Aa.new])
       obtain ⟨p1, p2⟩ := hr.new hfree (.map es clock) (.map es'.toArray clock) 0 ⟨es', rfl, e2.mono (Ren.le_upd hfree _)⟩ { w with heap := w.heap.push (.map es'.toArray clock) } rfl rfl rfl rfl
       refine ⟨_, .iface t (.map (some w.heap.size)), _, .inl ?_, ?_, p1, p2⟩
       ·simp only [callFunc, Sem.run_bind, run_program, Result.andThen_ok, hfun, hnum, hb, Option.isNone_none, Bool.false_eq_true, if_false, if_true, run_mark, c1, c2]
        have hcl : Extern.MapsClone.clone #[.iface t (.map (some base.cb))] = (do
          let .map entries clock ← getObj base.cb | stuck "maps.clone: a map expected"
          pure (.iface t (.map (some (← newObj (.map entries clock)))))) := rfl
        show ((Extern.MapsClone.clone #[.iface t (.map (some base.cb))]).run E.P w).andThen _ = _;rw [hcl];simp only [Sem.run_bind, hget, Result.andThen_ok, run_newObj, Sem.run_pure]
       ·exact .iface t _ _ (.map h.nx _ (Ren.upd_same _ _ _))
      | dmap kt vt x =>
       intro hf;obtain ⟨kks, vks, es', clock, k1, k2, e1, e2⟩ := hr.blk r base _ hbs hg;have hget := AC (w := w) E.P e1 (by simp)
       have hfree : ρ h.nx = none := hf h.nx (Nat.le_refl _) (by simp [Aa.new])
       obtain ⟨p1, p2⟩ := hr.new hfree (.dmap kt vt x) (.map es'.toArray clock) 0 ⟨kks, vks, es', clock, k1, k2, rfl, e2⟩ { w with heap := w.heap.push (.map es'.toArray clock) } rfl rfl rfl rfl
       refine ⟨_, .iface t (.map (some w.heap.size)), _, .inl ?_, ?_, p1, p2⟩
       ·simp only [callFunc, Sem.run_bind, run_program, Result.andThen_ok, hfun, hnum, hb, Option.isNone_none, Bool.false_eq_true, if_false, if_true, run_mark, c1, c2]
        have hcl : Extern.MapsClone.clone #[.iface t (.map (some base.cb))] = (do
          let .map entries clock ← getObj base.cb | stuck "maps.clone: a map expected"
          pure (.iface t (.map (some (← newObj (.map entries clock)))))) := rfl
        show ((Extern.MapsClone.clone #[.iface t (.map (some base.cb))]).run E.P w).andThen _ = _;rw [hcl];simp only [Sem.run_bind, hget, Result.andThen_ok, run_newObj, Sem.run_pure]
       ·exact .iface t _ _ (.map h.nx _ (Ren.upd_same _ _ _))
      | _ => trivial
  ·trivial
 ·rename_i hn;obtain ⟨c1, c2⟩ := hE.ixb f fn hfn hb hn;split
  ·rename_i l b c;cases hc256 : Nat.blt c 256 with
   | false => trivial
   | true =>
   intro hf;have hclt := IqQ hc256;obtain ⟨v, r, rfl, hv, hl⟩ := ha.cons_inv;obtain ⟨v2, r2, rfl, hv2, hl2⟩ := hl.cons_inv;have := hl2.nil_inv;subst this;cases hv;cases hv2;rename_i s;refine ⟨ρ, .int .i64 (DC c s.data.toList.length (AH s.data.toList) 0), w, .inl ?_, .int _ _, hr, Ext.refl ρ h w⟩;simp only [callFunc, Sem.run_bind, run_program, Result.andThen_ok, hfun, hnum, hb, Option.isNone_none, Bool.false_eq_true, if_false, if_true, run_mark, c1, c2]
   have hcl : Extern.BytealgIndexByte.indexByte #[.string s, .int .u8 (Int.ofNat c)] = (do
     let b ← Extern.Bytes.bytesOf (.string s)
     let c ← Extern.Bytes.asByte (.int .u8 (Int.ofNat c))
     match (List.range b.size).find? fun i => b[i]! == c with
     | some i => pure (goInt i)
     | none => pure (goInt (-1))) := rfl
   show ((Extern.BytealgIndexByte.indexByte #[.string s, .int .u8 (Int.ofNat c)]).run E.P w).andThen _ = _;rw [hcl];have hix := Hq (Nat.toUInt8 c) s s.size 0 (by omega)
   have hc : (Nat.toUInt8 c).toNat = c := by
    simp [Nat.toUInt8]; omega
   have hlen : s.data.toList.length = s.size := by simp
   rw [hc, List.drop_zero] at hix;rw [hlen, hix, ← List.range_eq_range'];simp only [Sem.run_bind, Extern.Bytes.bytesOf, Extern.Bytes.asByte, Sem.run_pure, Result.andThen_ok, Int.ofNat_eq_natCast, Int.toNat_natCast];cases (List.range s.size).find? (fun i => s[i]! == Nat.toUInt8 c) <;> simp [goInt]
  ·trivial
 ·trivial
theorem PA (hr : HR ρ h.blk.get w) {f : FuncId} {args : List AV} {args' : List Value} (ha : VL ρ args args') : EJ E ρ h w (callFunc f args'.toArray) (L5 E f args h) := by
 unfold L5;cases hf : E.fn.get f with
 | none => trivial
 | some fn =>
  cases hb : fn.body with
  | none => simp only []; rw [hb]; exact QD hE hr hf hb ha
  | some c =>
   simp only [];rw [hb];refine ⟨rfl, args', ha, ?_⟩;simp only [callFunc, Sem.run_bind, run_program, Result.andThen_ok, hE.fn f fn hf, hE.num f fn hf, hb, Option.isNone_some, Bool.false_eq_true, if_false, Sem.run_pure]
theorem Ev (hr : HR ρ h.blk.get w) {fn fn' : Fn} {captured args : List AV} {captured' args' : List Value} (hfn : FnR ρ fn fn') (hc : VL ρ captured captured') (ha : VL ρ args args') :
  EJ E ρ h w (invoke (.fn fn' captured'.toArray) args'.toArray) (Eb E fn captured args h) := by
 cases fn with
 | func f =>
  simp only [FnR] at hfn;subst hfn;simp only [Eb, invoke];have := PA (w := w) hE hr (f := f) (ha.append hc);simpa using this
 | yield l =>
  obtain ⟨base, hb, rfl⟩ := hfn;simp only [Eb];exact ⟨rfl, base, args', hb, ha, rfl⟩
 | methodOf t name => trivial
 | via t path f ptr => trivial
 | method name =>
  simp only [FnR] at hfn;subst hfn;simp only [Eb];cases args with
  | nil => trivial
  | cons a rest =>
   cases a <;> try trivial
   rename_i t v;simp only [];cases hi : E.ty.get t with
   | none => trivial
   | some inf =>
    simp only [];cases hm : inf.methods.toList.find? (fun m => m.name == name) with
    | none => trivial
    | some m =>
     simp only [];cases hp : m.path.isEmpty with
     | false => cases m.func <;> trivial
     | true =>
      cases hfu : m.func with
      | none => trivial
      | some p =>
       obtain ⟨f, ptr⟩ := p;simp only [];obtain ⟨vv, rest', rfl, hvv, hrest⟩ := ha.cons_inv;cases hvv with
       | iface t a v' hv =>
        have hfuel : ∃ k, E.P.types.size + Made.depth = k + 1 := ⟨E.P.types.size + 99, rfl⟩
        obtain ⟨k, hk⟩ := hfuel;have hpath : m.path.toList = [] := by simpa using hp
        have hm' : inf.methods.find? (fun m => m.name == name) = some m := by rw [← hm]; simp
        have core : (∀ d, E.desc t = some d → ((∃ e, d = .pointer e) → ptr = true) → ((¬ ∃ e, d = .pointer e) → ptr = false) → (method (k + 1) t v' name).run E.P w = .ok (f, v') w) := by
         intro d hd h1 h2;have hu := hE.run_und hd w;simp only [method, Sem.run_bind, hE.run_info hi, Result.andThen_ok, hm', hpath, follow, Sem.run_pure, hfu, receiverAt, hu]
         cases d <;> first
          | (have := h1 ⟨_, rfl⟩; subst this; simp [Place.get])
          | (have := h2 (by simp); subst this; simp [Place.get])
        have fin : (method (k + 1) t v' name).run E.P w = .ok (f, v') w → EJ E ρ h w (invoke (.fn (.method name) captured'.toArray) (Value.iface t v' :: rest').toArray) (L5 E f (v :: rest) h) := by
         intro hq;have hcall := PA (w := w) hE hr (f := f) (VL.cons hv hrest)
         have hrun : ∀ r, (callFunc f (v' :: rest').toArray).run E.P w = r → (invoke (.fn (.method name) captured'.toArray) (Value.iface t v' :: rest').toArray).run E.P w = r := by
          intro r hr';rw [← hr'];simp only [invoke, List.getElem?_toArray, List.getElem?_cons_zero, callMethod, Sem.run_bind, run_program, Result.andThen_ok, hk, hq];simp
         unfold EJ at hcall ⊢;cases hres : L5 E f (v :: rest) h with
         | val x h' =>
          rw [hres] at hcall;intro hf;obtain ⟨σ, x', w', q1, q2⟩ := hcall hf;exact ⟨σ, x', w', q1.imp (hrun _) (fun q => ⟨hrun _ q.1, q.2⟩), q2⟩
         | enter g as h' => rw [hres] at hcall; obtain ⟨q0, as', q1, q2⟩ := hcall; exact ⟨q0, as', q1, hrun _ q2⟩
         | round l as h' => rw [hres] at hcall; obtain ⟨q0, b, as', q1, q2, q3⟩ := hcall; exact ⟨q0, b, as', q1, q2, hrun _ q3⟩
         | defer d h' => rw [hres] at hcall; obtain ⟨q0, d', q1, q2⟩ := hcall; exact ⟨q0, d', q1, hrun _ q2⟩
         | recover h' => rw [hres] at hcall; exact ⟨hcall.1, hrun _ hcall.2⟩
         | panic x h' => rw [hres] at hcall; obtain ⟨q0, x', q1, q2⟩ := hcall; exact ⟨q0, x', q1, hrun _ q2⟩
         | bad why => trivial
        cases hd : E.desc t with
        | none => trivial
        | some d =>
         cases d <;> cases ptr <;> first
          | trivial
          | exact fin (core _ hd (by simp) (by simp))
end
end Go.AE
namespace Go.AE
variable [U : Unk]
theorem HW {e : SB} (h : Me e = true) : Ah U.V e = true := by
 unfold Me at h;split at h
 ·rename_i hd; exact Aw U.ok hd
 ·cases h
theorem It {e : SB} (h : QP e = true) : Ah U.V e = false := by
 unfold QP at h;split at h
 ·rename_i hd; exact Aw U.ok hd
 ·cases h
theorem LT {i n : SE} (h : inR i n = true) : 0 ≤ Ad U.V i ∧ Ad U.V i < Ad U.V n := by
 unfold inR at h;obtain ⟨h1, h2⟩ := Av h;have a := It h1;have b := HW h2;rw [Ay, decide_eq_false_iff_not, BN] at a;rw [Ay, decide_eq_true_eq] at b;omega
theorem I3 {ρ : Ren} {x i : SE} {j : Nat} {kd : Kd} {v : Value} (h : DV U.K ρ.imm kd v (Ab U.V (.cell x i j))) : VR ρ (Js x i j kd) v := by
 cases h with
 | int k n _ hr e =>
  have e : Ad U.V (.cell x i j) = n := e;simp only [Js];split
  ·have := C2 ρ k (.cell x i j);rw [e] at this; exact this
  ·rename_i hk;have hb := hr.resolve_left (by simpa using hk)
   have := C2 ρ k (.conv k (.cell x i j));rw [Lu, e, GP k n hb.1 hb.2] at this;exact this
 | bool b _ e =>
  have := GS ρ true (.cell x i j);have e : (Ah U.V (.cell x i j) == true) = b := by unfold Ah; rw [e]; cases b <;> rfl
  rw [e] at this; exact this
 | str s _ e =>
  have := VR.ss (ρ := ρ) (.cell x i j);have e : AT U.V (.cell x i j) = s := e;rw [e] at this; exact this
 | nil e _ h1 h2 => exact .dat e _ _ _ _ (.nil e _ h1 h2)
 | empty e a cap _ h1 h2 => exact .dat e _ _ _ _ (.empty e a cap _ h1 h2)
 | slc e b off n cap _ ks arr hk ha hn hc h1 hin hrow hv => exact .dat e _ _ _ _ (.slc e b off n cap _ ks arr hk ha hn hc h1 hin hrow hv)
omit U in
theorem kinds_size {E : Env} {ar : Bool} {n : Nat} {t : TypeId} {ks : List Kd} (h : DZ ar E.desc E.szIs n t = some ks) : E.szIs t ks.length = true ∧ ∃ m, n = m + 1 ∧ Jm ar E.szIs (DZ ar E.desc E.szIs m) (E.desc t) = some ks := by
 cases n with
 | zero => cases h
 | succ m =>
  simp only [DZ] at h;split at h
  ·rename_i l hl;split at h
   ·rename_i hs; cases h; exact ⟨hs, m, rfl, hl⟩
   ·cases h
  ·cases h
omit U in
theorem Env.kinds_size {E : Env} {t : TypeId} {ks : List Kd} (h : E.kinds t = some ks) : E.szIs t ks.length = true := (AE.kinds_size h).1
omit U in
theorem DV.at {K : TypeId → Option (List Kd)} {M : Nat → Option (Array Value)} {e : TypeId} {a : Option Addr} {n cap : Nat} {d : D} (h : DV K M (.slice e) (.slice a n cap) d) (hn : 0 < n) : ∃ b o, a = some ⟨b, o, none⟩ ∧ n ≤ cap := by
 cases h
 ·omega
 ·omega
 ·exact ⟨_, _, rfl, by assumption⟩
omit U in
theorem DV.row {K : TypeId → Option (List Kd)} {M : Nat → Option (Array Value)} {e : TypeId} {b o n cap i : Nat} {d : D} {ks : List Kd} (h : DV K M (.slice e) (.slice (some ⟨b, o, none⟩) n cap) d) (hk : K e = some ks) (hi : i < n) :
  ∃ arr, M b = some arr ∧ o + n * ks.length ≤ arr.size ∧ d.rows.length = n ∧ ∀ j kd, ks[j]? = some kd → DV K M kd (arr.getD (o + i * ks.length + j) Go.undef) ((d.rows.getD i default).cells.getD j default) := by
 cases h with
 | empty => omega
 | slc _ _ _ _ _ _ ks' arr hk' ha hn hc h1 hin hrow hv =>
  rw [hk] at hk'; cases hk';exact ⟨arr, ha, hin, hn, fun j kd hj => hv i j kd hi hj⟩
omit U in
theorem Bo.row {K : TypeId → Option (List Kd)} {M : Nat → Option (Array Value)} {ks : List Kd} {cur : Array Value} {o i : Nat} {rows : List D} (h : Bo K M ks cur o rows) (hi : i < rows.length) :
  o + rows.length * ks.length ≤ cur.size ∧ ∀ j kd, ks[j]? = some kd → DV K M kd (cur.getD (o + i * ks.length + j) Go.undef) ((rows.getD i default).cells.getD j default) :=
 ⟨h.1, fun j kd hj => h.2.2 i j kd hi hj⟩
section
variable {E : Env} (hE : OK E) {ρ : Ren} {h : Aa} {w : World}
include hE
omit hE in
theorem Hy {ks : List Kd} {y i : SE} {arr : Array Value} {p : Nat} (hv : ∀ j kd, ks[j]? = some kd → DV U.K ρ.imm kd (arr.getD (p + j) Go.undef) (Ab U.V (.cell y i j))) :
  ∀ (n j : Nat) (l : List AV), Hb y i ks j n = some l → (n = 0 ∨ j + n ≤ ks.length) ∧ l.length = n ∧ ∀ q a, l[q]? = some a → VR ρ a (arr.getD (p + j + q) Go.undef)
 | 0, j, l, hl => by
  simp only [Hb, Option.some.injEq] at hl;subst hl;exact ⟨.inl rfl, rfl, fun q a hq => by simp at hq⟩
 | n + 1, j, l, hl => by
  simp only [Hb] at hl;split at hl
  ·rename_i k l' hk hl';cases hl;obtain ⟨h1, h2, h3⟩ := Hy hv n (j + 1) l' hl';have hjl : j < ks.length := (List.getElem?_eq_some_iff.1 hk).1;refine ⟨.inr (by omega), by simp [h2], fun q a hq => ?_⟩
   cases q with
   | zero =>
    simp only [List.getElem?_cons_zero, Option.some.injEq] at hq;subst hq;exact I3 (hv j k hk)
   | succ q =>
    simp only [List.getElem?_cons_succ] at hq;have := h3 q a hq;rw [show p + j + (q + 1) = p + (j + 1) + q by omega]
    exact this
  ·cases hl
theorem LK {t e : TypeId} {ks : List Kd} {y i : SE} {off b p : Nat} {fz : Nat × Nat} {arr : Array Value} {a : AV} (hb : w.heap[b]? = some (.cells arr e fz)) (hsz : p + ks.length ≤ arr.size)
  (hv : ∀ j kd, ks[j]? = some kd → DV U.K ρ.imm kd (arr.getD (p + j) Go.undef) (Ab U.V (.cell y i j))) (hl : Kp E t ks y i off = some a) :
  ∃ v, (Instr.loadAt t (.pointer (some ⟨b, p + off, none⟩))).run E.P w = .ok v w ∧ VR ρ a v := by
 unfold Kp at hl;split at hl
 ·rename_i d hd;unfold Instr.loadAt loadVar;simp only [Instr.sureAddr, Sem.run_bind, Sem.run_pure, Result.andThen_ok, hE.run_isAgg hd];split at hl
  ·rename_i hag;split at hl
   ·rename_i l hc;cases hl;obtain ⟨h1, h2, h3⟩ := Hy hv _ _ _ hc;simp only [hag, if_true, Sem.run_bind, hE.run_size hd, Result.andThen_ok];by_cases hz : E.size t = 0
    ·rw [hz];refine ⟨.agg #[], by simp [loadCells, loadCellsFrom], ?_⟩
     have : l = [] := by rw [hz] at h2; exact List.eq_nil_of_length_eq_zero h2
     subst this;exact .agg [] [] rfl (by simp)
    ·have hle : off + E.size t ≤ ks.length := h1.resolve_left hz;rw [AL E.P w b (p + off) (E.size t) arr e fz hb (by omega)]
     simp only [Result.andThen_ok, Sem.run_pure];refine ⟨_, rfl, .agg _ _ (by simp; omega) ?_⟩
     intro q x v hq hqv;have hql : q < E.size t := by have := (List.getElem?_eq_some_iff.1 hq).1; omega
     have := h3 q x hq;rw [List.getElem?_take, if_pos hql, List.getElem?_drop, Array.getElem?_toList] at hqv;have ev : arr.getD (p + off + q) Go.undef = v := by simp [Array.getD_eq_getD_getElem?, hqv]
     rw [ev] at this; exact this
   ·cases hl
  ·rename_i hag;split at hl
   ·rename_i k hk;cases hl;have hkl : off < ks.length := (List.getElem?_eq_some_iff.1 hk).1;have hlt : p + off < arr.size := by omega
    have hc : w.cell? ⟨b, p + off, none⟩ = some (arr.getD (p + off) Go.undef) := by
     simp [World.cell?, hb, Array.getD_eq_getD_getElem?, hlt]
    simp only [hag, Bool.false_eq_true, if_false, run_load, hc];exact ⟨_, rfl, I3 (hv off k hk)⟩
   ·cases hl
 ·cases hl
theorem Vl (hr : HR ρ h.blk.get w) {t : TypeId} {x a : AV} {xv : Value} (hx : VR ρ x xv) (hl : Wb E t x h = some a) :
  ∃ v, (Instr.loadAt t xv).run E.P w = .ok v w ∧ VR ρ a v := by
 unfold Wb at hl;split at hl
 ·rename_i e y i off;split at hl
  ·rename_i ks hk;cases hx with
   | dptr _ _ _ _ b o n cap ks' hd hk' h0 hi ho =>
    have hk2 : U.K e = some ks := by rw [hE.kd, ← hE.ke]; exact hk
    rw [hk2] at hk'; cases hk';obtain ⟨arr, a1, a2, a3, a4⟩ := hd.row hk2 hi;obtain ⟨et, fz, hw⟩ := hr.imm b arr a1;have hle : ((Ad U.V i).toNat + 1) * ks.length ≤ n * ks.length := Nat.mul_le_mul_right _ hi;rw [Nat.add_mul, Nat.one_mul] at hle;exact LK hE (p := o + (Ad U.V i).toNat * ks.length) hw (by omega) a4 hl
  ·cases hl
 ·rename_i b es i off;split at hl
  ·rename_i e y hb;split at hl
   ·rename_i ks hk;split at hl
    ·rename_i hc;obtain ⟨c1, c2⟩ := Av hc;have hes := AG c1;subst hes;obtain ⟨r0, r1⟩ := LT c2
     try rw [Ao, Dx, ← Ao] at r1
     rw [Ao] at r1;cases hx with
     | aptr _ _ _ _ base hρ h0 =>
      obtain ⟨ks', cur, et, fz, b1, b2, b3, b4, b5⟩ := hr.blk b base _ hρ hb;have hk2 : U.K e = some ks := by rw [hE.kd, ← hE.ke]; exact hk
      rw [hk2] at b1; cases b1;have hi : (Ad U.V i).toNat < (Ab U.V y).rows.length := by omega
      obtain ⟨a2, a4⟩ := b5.row hi;have hle : ((Ad U.V i).toNat + 1) * ks.length ≤ (Ab U.V y).rows.length * ks.length := Nat.mul_le_mul_right _ hi;rw [Nat.add_mul, Nat.one_mul] at hle;exact LK hE (p := base.co + (Ad U.V i).toNat * ks.length) b2 (by omega) a4 hl
    ·cases hl
   ·cases hl
  ·cases hl
 ·exact PP hE hr hx hl
theorem Mq {t : TypeId} {x i a : AV} {xv iv : Value} (hx : VR ρ x xv) (hi : VR ρ i iv) (hl : HQ E t x i = some a) :
  ∃ v, (Instr.indexAt t xv iv).run E.P w = .ok v w ∧ VR ρ a v := by
 unfold HQ at hl;split at hl
 ·rename_i e' y;split at hl
  ·rename_i e k ie hd hti;split at hl
   ·rename_i k0 kr hk;split at hl
    ·rename_i hc;cases hl;obtain ⟨c1, c2⟩ := Av hc;have he := AG c1;subst he;obtain ⟨r0, r1⟩ := LT c2
     try rw [Ao, Dx, ← Ao] at r1
     rw [Ao] at r1;have hiv := CY hi hti;subst hiv;have hk2 : U.K e = some (k0 :: kr) := by rw [hE.kd, ← hE.ke]; exact hk
     cases hx with
     | dat _ _ ad n cap hdv =>
      obtain ⟨_, _, _, q1, q2⟩ := hdv.slice_inv;cases q1;rw [q2] at r1;obtain ⟨b, o, rfl, hcap⟩ := hdv.at (by omega)
      refine ⟨.pointer (some ⟨b, o + (Ad U.V ie).toNat * (k0 :: kr).length + 0, none⟩), ?_, .dptr e y ie 0 b o n cap _ hdv hk2 r0 (by omega) (by simp)⟩
      have hlt : 0 ≤ Ad U.V ie ∧ Ad U.V ie < n := by omega
      simp [Instr.indexAt, asIntOf, hE.run_und hd, hE.run_szIs (Env.kinds_size hk), hlt, Cl]
    ·cases hl
   ·cases hl
  ·cases hl
 ·rename_i b es n nl;split at hl
  ·rename_i e k ie hd hti;split at hl
   ·rename_i hc;cases hl;obtain ⟨c1, c2⟩ := Av hc;obtain ⟨r0, r1⟩ := LT c2
    try rw [Ao, Dx, ← Ao] at r1
    have hiv := CY hi hti;subst hiv;cases hx with
    | asl _ _ _ _ cap base hb h0 hcap hz hnl =>
     refine ⟨.pointer (some ⟨base.cb, base.co + (Ad U.V ie).toNat * es + 0, none⟩), ?_, .aptr b es ie 0 base hb r0⟩;have hlt : 0 ≤ Ad U.V ie ∧ Ad U.V ie < ((Ad U.V n).toNat : Int) := by omega
     generalize (Ad U.V n).toNat = N at hlt;simp [Instr.indexAt, asIntOf, hE.run_und hd, hE.run_szIs c1, hlt, Cl]
    | aslEnd _ _ _ _ ad h0 hnl => omega
   ·cases hl
  ·cases hl
 ·rename_i b es i0 off;split at hl
  ·rename_i len e n hd hn;split at hl
   ·rename_i hc;cases hl;obtain ⟨c1, c2⟩ := Av hc;obtain ⟨k, rfl⟩ := Cv (IG hi) hn;have hlt := IqQ c1;cases hx with
    | aptr _ _ _ _ base hb h0 =>
     have := VR.aptr (ρ := ρ) b es i0 (off + n * E.size e) base hb h0;rw [← Nat.add_assoc] at this;refine ⟨_, ?_, this⟩;simp [Instr.indexAt, asIntOf, hE.run_und hd, hE.run_has c2, Instr.sureAddr, hlt, Cl]
   ·cases hl
  ·cases hl
 ·rename_i e' y i0 off;split at hl
  ·rename_i len e n ks hd hn hk;split at hl
   ·rename_i hc;cases hl;obtain ⟨c0, c3⟩ := Av hc;obtain ⟨c1, c2⟩ := Av c0;obtain ⟨k, rfl⟩ := Cv (IG hi) hn;have hlt := IqQ c1;cases hx with
    | dptr _ _ _ _ b o n' cap ks' hdv hk' h0 hi' ho =>
     have hk2 : U.K e' = some ks := by rw [hE.kd, ← hE.ke]; exact hk
     rw [hk2] at hk'; cases hk';have := VR.dptr (ρ := ρ) e' y i0 (off + n * E.size e) b o n' cap ks hdv hk2 h0 hi' (IqQ c3);rw [← Nat.add_assoc] at this;refine ⟨_, ?_, this⟩;simp [Instr.indexAt, asIntOf, hE.run_und hd, hE.run_has c2, Instr.sureAddr, hlt, Cl]
   ·cases hl
  ·cases hl
 ·exact Mm hE hx (IG hi) hl
theorem JK {t : TypeId} {fs : Array Field} {f : Nat} {fd : Field} (hd : E.desc t = some (.struct fs)) (hf : fs.toList[f]? = some fd) {n : Nat} (hs : E.size fd.type = n + 1) (b o : Nat) :
  (Instr.fieldAt t (.pointer (some ⟨b, o, none⟩)) f).run E.P w = .ok (.pointer (some ⟨b, o + fd.offset, none⟩)) w := by
 have hf' : fs[f]? = some fd := by simpa using hf
 have hsz : ∀ w, (sizeOf fd.type).run E.P w = .ok (n + 1) w := by
  intro w;unfold Env.size at hs;cases hi : E.ty.get fd.type with
  | none => simp [hi] at hs
  | some i => simp only [hi] at hs; rw [hE.run_sz hi, hs]
 simp [Instr.fieldAt, hE.run_und hd, hf', Instr.sureAddr, fieldPlace, hsz, Cl]
theorem Ml {t : TypeId} {x a : AV} {f : Nat} {xv : Value} (hx : VR ρ x xv) (hl : HC E t x f = some a) :
  ∃ v, (Instr.fieldAt t xv f).run E.P w = .ok v w ∧ VR ρ a v := by
 unfold HC at hl;split at hl
 ·rename_i e y i off;split at hl
  ·rename_i fs ks hd hk;split at hl
   ·rename_i fd hf;split at hl
    ·rename_i n hs hb;cases hl;cases hx with
     | dptr _ _ _ _ b o n' cap ks' hdv hk' h0 hi ho =>
      have hk2 : U.K e = some ks := by rw [hE.kd, ← hE.ke]; exact hk
      rw [hk2] at hk'; cases hk';have := VR.dptr (ρ := ρ) e y i (off + fd.offset) b o n' cap ks hdv hk2 h0 hi (IqQ hb);rw [← Nat.add_assoc] at this;exact ⟨_, JK hE hd hf hs b _, this⟩
    ·cases hl
   ·cases hl
  ·cases hl
 ·rename_i b es i off;split at hl
  ·rename_i fs hd;split at hl
   ·rename_i fd hf;split at hl
    ·cases hl
    ·rename_i n hs;cases hl;cases hx with
     | aptr _ _ _ _ base hb h0 =>
      have := VR.aptr (ρ := ρ) b es i (off + fd.offset) base hb h0;rw [← Nat.add_assoc] at this
      obtain ⟨m, hm⟩ : ∃ m, E.size fd.type = m + 1 := by
       cases hq : E.size fd.type with
       | zero => exact absurd hq hs
       | succ m => exact ⟨m, rfl⟩
      exact ⟨_, JK hE hd hf hm base.cb _, this⟩
   ·cases hl
  ·cases hl
 ·exact Mu hE hx hl
end
end Go.AE
namespace Go.AE
variable [U : Unk]
omit U in
theorem ak {a : AV} (h : a.isTop = false) : a ≠ .top := by rintro rfl; cases h
theorem Eh : ∀ (l : List UInt8), Da l.length (AH l) = l
 | [] => rfl
 | b :: r => by
  have h := Fw b r;simp only [List.length_cons, Da, h.1, h.2, Eh r]
  congr 1
  simp
theorem KD {ρ : Ren} {kd : Kd} {a : AV} {v : Value} {x : SE} (h : VR ρ a v) (hs : X0 kd a = some x) : DV U.K ρ.imm kd v (Ab U.V x) := by
 unfold X0 at hs;split at hs
 ·rename_i k k' n;split at hs
  ·rename_i hc;cases hs;cases h;obtain ⟨c1, c2⟩ := Av hc;have hk : k = k' := by simpa using c1
   subst hk;refine .int k n _ ?_ rfl;simpa using c2
  ·cases hs
 ·rename_i k k' e;split at hs
  ·rename_i hc;cases hs;cases h;obtain ⟨c1, c2⟩ := Av hc;have hk : k = k' := by simpa using c1
   subst hk;refine .int k _ _ ?_ rfl;rcases Bool.or_eq_true_iff.1 c2 with c | c
   ·exact .inl (by simpa using c)
   ·right;have hb := GB U.ok x;unfold Oz at c;split at c
    ·rename_i l h hl hh;simp only [Bool.and_eq_true, decide_eq_true_eq] at c;have h1 := hb.1 l hl;have h2 := hb.2 h hh;omega
    ·cases c
  ·cases hs
 ·rename_i b;cases hs; cases h;exact .bool b _ rfl
 ·rename_i pos e;cases hs; cases h;refine .bool _ _ ?_;cases pos with
  | true => show (Ab U.V e).toBool = _; unfold Ah; cases (Ab U.V e).toBool <;> rfl
  | false => show (!(Ab U.V e).toBool) = _; unfold Ah; cases (Ab U.V e).toBool <;> rfl
 ·rename_i l b;cases hs; cases h;refine .str _ _ ?_;show (⟨(Da _ _).toArray⟩ : ByteArray) = _;rw [Eh]
 ·cases hs; cases h;exact .str _ _ rfl
 ·rename_i e e' y;split at hs
  ·rename_i hc;cases hs;have := AG hc;subst this;cases h
   assumption
  ·cases hs
 ·cases hs; cases h;exact .nil _ _ rfl rfl
 ·cases hs
omit U in
theorem List.getD_modify (l : List D) (i : Nat) (f : D → D) (q : Nat) (hq : q < l.length) : (l.modify i f).getD q default = if i = q then f (l.getD q default) else l.getD q default := by
 simp only [List.getD_eq_getElem?_getD, List.getElem?_modify];split
 ·rename_i h; subst h; simp [hq]
 ·simp [hq]
theorem Bo.upd {ρ : Ren} {ks : List Kd} {cur cur' : Array Value} {o j : Nat} {y i x : SE} {kd : Kd} {v : Value} (h : Bo U.K ρ.imm ks cur o (Ab U.V y).rows) (hi : (Ad U.V i).toNat < (Ab U.V y).rows.length) (hj : ks[j]? = some kd)
  (hd : DV U.K ρ.imm kd v (Ab U.V x)) (hs : cur'.size = cur.size) (hg : ∀ p, cur'[p]? = if p = o + (Ad U.V i).toNat * ks.length + j then some v else cur[p]?) : Bo U.K ρ.imm ks cur' o (Ab U.V (.upd y i j x)).rows := by
 have er : (Ab U.V (.upd y i j x)).rows = (Ab U.V y).rows.modify (Ad U.V i).toNat fun r => .row (r.cells.set j (Ab U.V x)) := rfl
 have el : (Ab U.V (.upd y i j x)).rows.length = (Ab U.V y).rows.length := by rw [er]; simp
 obtain ⟨h1, h2, h3⟩ := h;have hjl : j < ks.length := (List.getElem?_eq_some_iff.1 hj).1;refine ⟨by rw [el, hs]; exact h1, fun q hq => ?_, fun q c kd' hq hc => ?_⟩
 ·rw [el] at hq;rw [er, List.getD_modify _ _ _ _ hq];split
  ·simp only [D.cells, List.length_set]; exact h2 q hq
  ·exact h2 q hq
 ·rw [el] at hq;have hcl : c < ks.length := (List.getElem?_eq_some_iff.1 hc).1;have hold := h3 q c kd' hq hc;rw [er, List.getD_modify _ _ _ _ hq];by_cases hqi : (Ad U.V i).toNat = q
  ·rw [if_pos hqi];simp only [D.cells];by_cases hcj : c = j
   ·subst hcj;rw [hj] at hc; cases hc;have e1 : cur'.getD (o + q * ks.length + c) Go.undef = v := by simp [Array.getD_eq_getD_getElem?, hg, hqi]
    have e2 : ((((Ab U.V y).rows.getD q default).cells.set c (Ab U.V x)).getD c default) = Ab U.V x := by
     have := h2 q hq;generalize ((Ab U.V y).rows.getD q default).cells = cl at this ⊢;simp [List.getD_eq_getElem?_getD, this, hcl]
    rw [e1];simp only [D.cells] at e2;rw [e2]; exact hd
   ·have e1 : cur'.getD (o + q * ks.length + c) Go.undef = cur.getD (o + q * ks.length + c) Go.undef := by
     simp only [Array.getD_eq_getD_getElem?, hg, hqi];rw [if_neg (by omega)]
    have e2 : ((((Ab U.V y).rows.getD q default).cells.set j (Ab U.V x)).getD c default) = ((Ab U.V y).rows.getD q default).cells.getD c default := by
     simp only [List.getD_eq_getElem?_getD];rw [List.getElem?_set_ne (fun e => hcj e.symm)]
    rw [e1];simp only [D.cells] at e2 hold ⊢;rw [e2]; exact hold
  ·rw [if_neg hqi]
   have e1 : cur'.getD (o + q * ks.length + c) Go.undef = cur.getD (o + q * ks.length + c) Go.undef := by
    simp only [Array.getD_eq_getD_getElem?, hg];rw [if_neg ?_];intro e;have hlt : (Ad U.V i).toNat < q ∨ q < (Ad U.V i).toNat := by omega
    rcases hlt with hlt | hlt
    ·have := Nat.mul_le_mul_right ks.length hlt;rw [Nat.succ_mul] at this;omega
    ·have := Nat.mul_le_mul_right ks.length hlt;rw [Nat.succ_mul] at this;omega
   rw [e1]; exact hold
theorem MO {ρ : Ren} {ks : List Kd} {o : Nat} {i : SE} : ∀ (l : List AV) (vs : List Value) (j : Nat) (y y' : SE) (cur cur' : Array Value), Bo U.K ρ.imm ks cur o (Ab U.V y).rows → (Ad U.V i).toNat < (Ab U.V y).rows.length → Ds i ks y j l = some y' → VL ρ l vs →
  cur'.size = cur.size → (∀ p, cur'[p]? = if o + (Ad U.V i).toNat * ks.length + j ≤ p ∧ p < o + (Ad U.V i).toNat * ks.length + j + vs.length then vs[p - (o + (Ad U.V i).toNat * ks.length + j)]? else cur[p]?) →
  Bo U.K ρ.imm ks cur' o (Ab U.V y').rows
 | [], vs, j, y, y', cur, cur', h, hi, hu, hv, hs, hg => by
  simp only [Ds, Option.some.injEq] at hu;subst hu;have := hv.nil_inv;subst this
  have : cur' = cur := by
   apply Array.ext_getElem?;intro p;rw [hg, if_neg (by simp)]
  rw [this]; exact h
 | a :: r, vs, j, y, y', cur, cur', h, hi, hu, hv, hs, hg => by
  obtain ⟨v, vr, rfl, ha, hr⟩ := hv.cons_inv;simp only [Ds] at hu;split at hu
  ·rename_i k hk;split at hu
   ·rename_i x hx;have hd := KD ha hx;have hjl : j < ks.length := (List.getElem?_eq_some_iff.1 hk).1;have hle : ((Ad U.V i).toNat + 1) * ks.length ≤ (Ab U.V y).rows.length * ks.length := Nat.mul_le_mul_right _ hi;rw [Nat.add_mul, Nat.one_mul] at hle;have hin := h.1
    have h1 := h.upd (cur' := cur.setIfInBounds (o + (Ad U.V i).toNat * ks.length + j) v) hi hk hd (by simp) (fun p => by
     rw [Array.getElem?_setIfInBounds];by_cases e : o + (Ad U.V i).toNat * ks.length + j = p
     ·rw [if_pos e, if_pos e.symm, if_pos (by omega)]
     ·rw [if_neg e, if_neg (fun q => e q.symm)])
    have el : (Ab U.V (.upd y i j x)).rows.length = (Ab U.V y).rows.length := by
     have er : (Ab U.V (.upd y i j x)).rows = (Ab U.V y).rows.modify (Ad U.V i).toNat fun r => .row (r.cells.set j (Ab U.V x)) := rfl
     rw [er]; simp
    refine MO r vr (j + 1) _ y' _ cur' h1 (by rw [el]; exact hi) hu hr (by rw [hs]; simp) (fun p => ?_)
    rw [hg];simp only [List.length_cons];by_cases e : p = o + (Ad U.V i).toNat * ks.length + j
    ·subst e;rw [if_pos (by omega), if_neg (by omega), Array.getElem?_setIfInBounds_self]
     rw [if_pos (by omega)]
     simp
    ·by_cases c : o + (Ad U.V i).toNat * ks.length + j ≤ p ∧ p < o + (Ad U.V i).toNat * ks.length + j + (vr.length + 1)
     ·rw [if_pos c, if_pos (by omega)]
      rw [show p - (o + (Ad U.V i).toNat * ks.length + j) = (p - (o + (Ad U.V i).toNat * ks.length + (j + 1))) + 1 by omega]
      simp
     ·rw [if_neg c, if_neg (by omega), Array.getElem?_setIfInBounds_ne (fun q => e q.symm)]
   ·cases hu
  ·cases hu
section
variable {E : Env} (hE : OK E) {ρ : Ren} {h : Aa} {w : World}
include hE
omit hE in
theorem LD {i : SE} {ks : List Kd} : ∀ (l : List AV) (j : Nat) (y y' : SE), Ds i ks y j l = some y' → j + l.length ≤ ks.length ∨ l = []
 | [], _, _, _, _ => .inr rfl
 | a :: r, j, y, y', hu => by
  simp only [Ds] at hu;split at hu
  ·rename_i k hk;split at hu
   ·rename_i x hx;have hjl : j < ks.length := (List.getElem?_eq_some_iff.1 hk).1;rcases LD r (j + 1) _ _ hu with h | h
    ·left; simp only [List.length_cons]; omega
    ·left; subst h; simp; omega
   ·cases hu
  ·cases hu
omit hE in
theorem Gx {i : SE} {ks : List Kd} : ∀ (l : List AV) (vs : List Value) (j : Nat) (y y' : SE), Ds i ks y j l = some y' → VL ρ l vs → ∀ v ∈ vs, v.oneCell' = true
 | [], vs, _, _, _, _, hv, v, hm => by have := hv.nil_inv; subst this; cases hm
 | a :: r, vs, j, y, y', hu, hv, v, hm => by
  obtain ⟨v0, vr, rfl, ha, hr⟩ := hv.cons_inv;simp only [Ds] at hu;split at hu
  ·rename_i k hk;split at hu
   ·rename_i x hx;rcases List.mem_cons.1 hm with rfl | hm
    ·have := KD ha hx;cases this <;> rfl
    ·exact Gx r vr (j + 1) _ _ hu hr v hm
   ·cases hu
  ·cases hu
theorem Jc (hr : HR ρ h.blk.get w) {t : TypeId} {x a : AV} {xv v : Value} {h' : Aa} (hx : VR ρ x xv) (ha : VR ρ a v) (hl : D0 E t x a h = some h') :
  ∃ w', (Instr.storeAt t xv v).run E.P w = .ok () w' ∧ HR ρ h'.blk.get w' ∧ Ext ρ ρ h h' w w' := by
 unfold D0 at hl;split at hl
 ·rename_i b es i off;split at hl
  ·rename_i e y hb;split at hl
   ·rename_i ks hk;split at hl
    ·rename_i hc;split at hl
     ·rename_i y' hu;cases hl;obtain ⟨c123, c4⟩ := Av hc;obtain ⟨c12, c3⟩ := Av c123;obtain ⟨c1, c2⟩ := Av c12;have hes := AG c1;subst hes;obtain ⟨r0, r1⟩ := LT c2
      try rw [Ao, Dx, ← Ao] at r1
      rw [Ao] at r1;have hcs := ha.cells (ak (by simpa using c4))
      cases hx with
      | aptr _ _ _ _ base hρ h0 =>
       obtain ⟨ks', cur, et, fz, b1, b2, b3, b4, b5⟩ := hr.blk b base _ hρ hb;have hk2 : U.K e = some ks := by rw [hE.kd, ← hE.ke]; exact hk
       rw [hk2] at b1; cases b1;have hi : (Ad U.V i).toNat < (Ab U.V y).rows.length := by omega
       have hle : ((Ad U.V i).toNat + 1) * ks.length ≤ (Ab U.V y).rows.length * ks.length := Nat.mul_le_mul_right _ hi;rw [Nat.add_mul, Nat.one_mul] at hle;have hin := b5.1;have hlen : a.cells.length = v.cells.toList.length := hcs.1
       have hfit : base.co + (Ad U.V i).toNat * ks.length + off + 0 + v.cells.toList.length ≤ cur.size ∨ v.cells.toList = [] := by
        rcases LD _ _ _ _ hu with q | q
        ·left; omega
        ·right; rw [q] at hlen; exact List.eq_nil_of_length_eq_zero hlen.symm
       have hst : ∃ w' cur', (storeCells ⟨base.cb, base.co + (Ad U.V i).toNat * ks.length + off, none⟩ v.cells.toList 0).run E.P w = .ok () w' ∧ w'.heap[base.cb]? = some (.cells cur' et fz) ∧ cur'.size = cur.size ∧
         (∀ j, cur'[j]? = if base.co + (Ad U.V i).toNat * ks.length + off ≤ j ∧ j < base.co + (Ad U.V i).toNat * ks.length + off + v.cells.toList.length then v.cells.toList[j - (base.co + (Ad U.V i).toNat * ks.length + off)]? else cur[j]?) ∧
         w'.heap.size = w.heap.size ∧ (∀ k, k ≠ base.cb → w'.heap[k]? = w.heap[k]?) ∧ w'.os = w.os ∧ w'.tape = w.tape ∧ w'.output = w.output := by
        rcases hfit with hfit | hnil
        ·exact Cg E.P base.cb (base.co + (Ad U.V i).toNat * ks.length + off) et fz v.cells.toList 0 w cur b2 hfit (by rw [b3]; exact b4) (Gx _ _ _ _ _ hu hcs)
        ·rw [hnil];exact ⟨w, cur, by simp [storeCells], b2, rfl, fun j => by rw [if_neg (by simp)], rfl, fun _ _ => rfl, rfl, rfl, rfl⟩
       obtain ⟨w', cur', q1, q2, q3, q4, q5, q6, q7, q8, q9⟩ := hst;have hrows := MO a.cells v.cells.toList off y y' cur cur' b5 hi hu hcs q3 q4;obtain ⟨p1, p2⟩ := hr.put hρ (by rw [hb]; exact Option.some_ne_none _) (.arr e y') w' ⟨ks, cur', et, fz, hk2, q2, by rw [q3, b3], b4, hrows⟩ q5 q6 q7 q8 q9
       refine ⟨w', ?_, p1, p2⟩;unfold Instr.storeAt storeVar;have e : v.cells.size = a.cells.length := by have := hcs.1; simp at this; omega
       simp [Instr.sureAddr, hE.run_szIs c3, e, q1]
     ·cases hl
    ·cases hl
   ·cases hl
  ·cases hl
 ·exact Tg hE hr hx ha hl
end
end Go.AE
namespace Go.AE
variable [U : Unk]
def Bm (K : TypeId → Option (List Kd)) (M : Nat → Option (Array Value)) (ks : List Kd) (vs : List Value) (rows : List D) : Prop :=
 vs.length = rows.length * ks.length ∧ (∀ i, i < rows.length → (rows.getD i default).cells.length = ks.length) ∧
  ∀ i j kd, i < rows.length → ks[j]? = some kd → DV K M kd (vs.getD (i * ks.length + j) Go.undef) ((rows.getD i default).cells.getD j default)
section
variable {K : TypeId → Option (List Kd)} {M : Nat → Option (Array Value)} {ks : List Kd}
omit U
theorem Bm.nil : Bm K M ks [] [] := ⟨by simp, fun i h => by simp at h, fun i j kd h => by simp at h⟩
theorem PR {l m : List D} {i : Nat} : (l ++ m).getD i default = if i < l.length then l.getD i default else m.getD (i - l.length) default := by
 simp only [List.getD_eq_getElem?_getD];by_cases h : i < l.length
 ·rw [if_pos h, List.getElem?_append_left h]
 ·rw [if_neg h, List.getElem?_append_right (by omega)]
theorem Ua {l m : List Value} {i : Nat} : (l ++ m).getD i Go.undef = if i < l.length then l.getD i Go.undef else m.getD (i - l.length) Go.undef := by
 simp only [List.getD_eq_getElem?_getD];by_cases h : i < l.length
 ·rw [if_pos h, List.getElem?_append_left h]
 ·rw [if_neg h, List.getElem?_append_right (by omega)]
theorem Qu {i n l j : Nat} (hi : i < n) (hj : j < l) : i * l + j < n * l := by
 have := Nat.mul_le_mul_right l hi;rw [Nat.succ_mul] at this;omega
theorem Bm.append {vs ws : List Value} {r s : List D} (h : Bm K M ks vs r) (k : Bm K M ks ws s) : Bm K M ks (vs ++ ws) (r ++ s) := by
 refine ⟨by simp [h.1, k.1, Nat.add_mul], fun i hi => ?_, fun i j kd hi hj => ?_⟩
 ·rw [PR];simp only [List.length_append] at hi;split
  ·rename_i c; exact h.2.1 i c
  ·exact k.2.1 _ (by omega)
 ·have hjl : j < ks.length := (List.getElem?_eq_some_iff.1 hj).1;simp only [List.length_append] at hi;rw [PR, Ua, h.1];by_cases c : i < r.length
  ·rw [if_pos c, if_pos (Qu c hjl)];exact h.2.2 i j kd c hj
  ·rw [if_neg c, if_neg (by
    have := Nat.mul_le_mul_right ks.length (Nat.le_of_not_lt c);omega)]
   have e : i * ks.length + j - r.length * ks.length = (i - r.length) * ks.length + j := by
    have := Nat.mul_le_mul_right ks.length (Nat.le_of_not_lt c);rw [Nat.sub_mul]; omega
   rw [e];exact k.2.2 _ j kd (by omega) hj
theorem Bm.at {vs : List Value} {rows : List D} {cur : Array Value} {off : Nat} (h : Bm K M ks vs rows) (hs : off + vs.length ≤ cur.size) (hg : ∀ q, q < vs.length → cur[off + q]? = vs[q]?) : Bo K M ks cur off rows := by
 refine ⟨by rw [← h.1]; exact hs, h.2.1, fun i j kd hi hj => ?_⟩
 have hjl : j < ks.length := (List.getElem?_eq_some_iff.1 hj).1;have := h.2.2 i j kd hi hj;have hq : i * ks.length + j < vs.length := by rw [h.1]; exact Qu hi hjl
 have e : cur.getD (off + i * ks.length + j) Go.undef = vs.getD (i * ks.length + j) Go.undef := by
  simp only [Array.getD_eq_getD_getElem?, List.getD_eq_getElem?_getD];rw [Nat.add_assoc, hg _ hq]
 rw [e]; exact this
theorem Bo.vals {rows : List D} {cur : Array Value} {off : Nat} (h : Bo K M ks cur off rows) : Bm K M ks ((cur.toList.drop off).take (rows.length * ks.length)) rows := by
 refine ⟨by have := h.1; simp; omega, h.2.1, fun i j kd hi hj => ?_⟩
 have hjl : j < ks.length := (List.getElem?_eq_some_iff.1 hj).1;have := h.2.2 i j kd hi hj
 have e : ((cur.toList.drop off).take (rows.length * ks.length)).getD (i * ks.length + j) Go.undef = cur.getD (off + i * ks.length + j) Go.undef := by
  simp only [Array.getD_eq_getD_getElem?, List.getD_eq_getElem?_getD];rw [List.getElem?_take, if_pos (Qu hi hjl), List.getElem?_drop, Array.getElem?_toList, Nat.add_assoc]
 rw [e]; exact this
theorem Bm.mono {N : Nat → Option (Array Value)} (hle : ∀ k a, M k = some a → N k = some a) {vs : List Value} {rows : List D} (h : Bm K M ks vs rows) : Bm K N ks vs rows :=
 ⟨h.1, h.2.1, fun i j kd a b => (h.2.2 i j kd a b).mono hle⟩
end
section
variable {ρ : Ren}
theorem Fm : ∀ (ks : List Kd) (l : List AV) (vs : List Value) (r : SE), Gz ks l = some r → VL ρ l vs → (Ab U.V r).cells.length = ks.length ∧ vs.length = ks.length ∧ ∀ j kd, ks[j]? = some kd → DV U.K ρ.imm kd (vs.getD j Go.undef) ((Ab U.V r).cells.getD j default)
 | [], [], vs, r, h, hv => by
  simp only [Gz, Option.some.injEq] at h;subst h;have := hv.nil_inv;subst this;exact ⟨rfl, rfl, fun j kd hj => by simp at hj⟩
 | k :: ks, a :: l, vs, r, h, hv => by
  obtain ⟨v, vr, rfl, ha, hr⟩ := hv.cons_inv;simp only [Gz] at h;split at h
  ·rename_i x y hx hy;cases h;obtain ⟨h1, h2, h3⟩ := Fm ks l vr y hy hr;have ec : (Ab U.V (.rcons x y)).cells = Ab U.V x :: (Ab U.V y).cells := rfl;rw [ec];refine ⟨by simp [h1], by simp [h2], fun j kd hj => ?_⟩
   cases j with
   | zero =>
    simp only [List.getElem?_cons_zero, Option.some.injEq] at hj;subst hj;exact KD ha hx
   | succ j =>
    simp only [List.getElem?_cons_succ] at hj;exact h3 j kd hj
  ·cases h
 | [], _ :: _, _, _, h, _ => by cases h
 | _ :: _, [], _, _, h, _ => by cases h
theorem Bm.one {ks : List Kd} {vs : List Value} {r : D} (h1 : r.cells.length = ks.length) (h2 : vs.length = ks.length) (h3 : ∀ j kd, ks[j]? = some kd → DV U.K ρ.imm kd (vs.getD j Go.undef) (r.cells.getD j default)) : Bm U.K ρ.imm ks vs [r] := by
 refine ⟨by simp [h2], fun i hi => ?_, fun i j kd hi hj => ?_⟩
 ·have : i = 0 := by simpa using hi
  subst this; exact h1
 ·have : i = 0 := by simpa using hi
  subst this;simpa using h3 j kd hj
theorem Fg {ks : List Kd} : ∀ (n : Nat) (y y' : SE) (l : List AV) (vs : List Value), DW ks n y l = some y' → VL ρ l vs → ∃ rs : List D, rs.length = n ∧ (Ab U.V y').rows = (Ab U.V y).rows ++ rs ∧ Bm U.K ρ.imm ks vs rs
 | 0, y, y', [], vs, h, hv => by
  simp only [DW, Option.some.injEq] at h;subst h;have := hv.nil_inv;subst this;exact ⟨[], rfl, by simp, .nil⟩
 | 0, y, y', _ :: _, vs, h, hv => by cases h
 | n + 1, y, y', l, vs, h, hv => by
  simp only [DW] at h;split at h
  ·rename_i r hr;obtain ⟨h1, h2, h3⟩ := Fm ks _ (vs.take ks.length) r hr (hv.take _);obtain ⟨rs, q1, q2, q3⟩ := Fg n _ y' _ (vs.drop ks.length) h (hv.drop _);refine ⟨Ab U.V r :: rs, by simp [q1], ?_, ?_⟩
   ·rw [q2];show ((Ab U.V y).rows ++ [Ab U.V r]) ++ rs = _;simp
   ·have := (Bm.one h1 h2 h3).append q3;simpa using this
  ·cases h
variable {E : Env} (hE : OK E) {h : Aa} {w : World}
include hE
theorem I6 {e : TypeId} {ks : List Kd} {b off n es : Nat} {l : List AV} {sv : Value} (hr : HR ρ h.blk.get w) (hx : VR ρ (.slice b off n es) sv) (hl : Cx h b off (n * es) = some l) :
  ∃ vs, VL ρ l vs ∧ vs.length = n * es ∧ ((n = 0 ∧ ∃ a, sv = .slice (some a) 0 0) ∨ ∃ base cur et fz cap sz c, ρ b = some base ∧ h.blk.get b = some (.cells sz c) ∧ sv = .slice (some ⟨base.cb, base.co + off, none⟩) n cap ∧ n ≤ cap ∧ base.co + off + cap * es ≤ base.csz ∧ w.heap[base.cb]? = some (.cells cur et fz) ∧ cur.size = base.csz ∧ (fz.1 = fz.2 ∨ base.csz ≤ fz.1) ∧
   ∀ q, q < vs.length → cur[base.co + off + q]? = vs[q]?) := by
 cases hx with
 | slice _ _ _ _ cap base hb hc hz =>
  unfold Cx at hl;split at hl
  ·rename_i sz c hg;split at hl
   ·rename_i hle;obtain ⟨vs, q1, q2, q3⟩ := hr.loadCells E.P hb hg (Dh hle) hl;obtain ⟨cur, et, fz, r1, r2, r3, r4, r5⟩ := hr.blk b base _ hb hg;have hlen : vs.length = n * es := by rw [← q1.1]; exact (T.range_spec c _ _ _ hl).1
    refine ⟨vs, q1, hlen, .inr ⟨base, cur, et, fz, cap, sz, c, hb, hg, rfl, hc, hz, r1, r2, r4, fun q hq => ?_⟩⟩
    have hv : vs[q]? = some vs[q] := by simp [hq]
    have := q3 q _ hv;rw [hv];simpa [World.cell?, r1] using this
   ·cases hl
  ·cases hl
 | sliceEnd _ _ _ a =>
  unfold Cx at hl;split at hl
  ·rename_i sz c hg;split at hl
   ·have e0 : 0 * es = 0 := by simp
    rw [e0] at hl;simp only [T.range, Option.some.injEq] at hl;subst hl;exact ⟨[], VL.nil ρ, by simp, .inl ⟨rfl, a, rfl⟩⟩
   ·cases hl
  ·cases hl
theorem WZ (hr : HR ρ h.blk.get w) {t' e e' : TypeId} {inf : TypeInfo} {ks : List Kd} (hk : E.kinds e = some ks) (hsz : ks.length = inf.size) (ht' : E.P.underlying t' = some (.slice e')) {y y' m : SE} {x : AV} {xv : Value} (hx : VR ρ x xv) (hs : Xb e ks h y x = some (y', m)) :
  ∃ rs nv, (Ab U.V y').rows = (Ab U.V y).rows ++ rs ∧ Ad U.V m = (rs.length : Nat) ∧ Bm U.K ρ.imm ks nv rs ∧ UX E.P w t' e inf xv rs.length nv := by
 have hk2 : U.K e = some ks := by rw [hE.kd, ← hE.ke]; exact hk
 have none_ : ∀ a : Option Addr, UX E.P w t' e inf (.slice a 0 0) 0 [] := by
  intro a;refine .cells _ ht' (.inl ⟨e', rfl⟩) (by simp [Builtin.lenOf]) (fun w' _ => ?_)
  cases a with
  | none => simp [Builtin.firstCells]
  | some a => simp [Builtin.firstCells, loadCells, loadCellsFrom]
 unfold Xb at hs;split at hs
 ·cases hs; cases hx;exact ⟨[], [], by simp, rfl, .nil, none_ none⟩
 ·cases hs; cases hx;exact ⟨[], [], by simp, rfl, .nil, none_ _⟩
 ·rename_i e1 x';split at hs
  ·rename_i hc;cases hs;have := AG hc;subst this;cases hx with
   | dat _ _ a n c hd =>
    obtain ⟨_, _, _, q1, q2⟩ := hd.slice_inv;cases q1;have er : (Ab U.V (.cat y x')).rows = (Ab U.V y).rows ++ (Ab U.V x').rows := rfl;by_cases hn : n = 0
    ·subst hn;have e0 : (Ab U.V x').rows = [] := List.eq_nil_of_length_eq_zero q2;refine ⟨[], [], by rw [er, e0], by rw [Ao, e0], .nil, ?_⟩
     refine .cells _ ht' (.inl ⟨e', rfl⟩) (by simp [Builtin.lenOf]) (fun w' _ => ?_)
     cases a with
     | none => simp [Builtin.firstCells]
     | some a => simp [Builtin.firstCells, loadCells, loadCellsFrom]
    ·obtain ⟨b, o, rfl, hcap⟩ := hd.at (by omega)
     generalize hdd : Ab U.V x' = d at hd;cases hd with
     | slc _ _ _ _ _ _ ks' arr hk' ha hn' hc' h1 hin hrow hv =>
      rw [hk2] at hk'; cases hk';obtain ⟨et, fz, hw⟩ := hr.imm b arr ha;have hra : Bo U.K ρ.imm ks arr o d.rows := ⟨by rw [hn']; exact hin, fun i hi => hrow i (by omega), fun i j kd hi hj => hv i j kd (by omega) hj⟩
      refine ⟨d.rows, _, by rw [er, hdd], by rw [Ao, hdd], hra.vals, ?_⟩
      rw [hn'];refine .cells _ ht' (.inl ⟨e', rfl⟩) (by simp [Builtin.lenOf]) (fun w' hw' => ?_)
      simp only [Builtin.firstCells, ← hsz];exact AL E.P w' b o (n * ks.length) arr et fz (by rw [hw']; exact hw) hin
     | empty => omega
  ·cases hs
 ·rename_i b es n nl;split at hs
  ·rename_i e1 z hes hb;split at hs
   ·rename_i hc;cases hs;obtain ⟨c1, c2⟩ := Av hc;have := AG c1;subst this;have := AG hes;subst this;have hx := Jg c2 hx;clear c2;have er : (Ab U.V (.cat y z)).rows = (Ab U.V y).rows ++ (Ab U.V z).rows := rfl;cases hx with
    | asl _ _ _ _ cap base hρ h0 hcap hz hnl =>
     obtain ⟨ks', cur, et, fz, b1, b2, b3, b4, b5⟩ := hr.blk b base _ hρ hb;rw [hk2] at b1; cases b1;refine ⟨(Ab U.V z).rows, _, er, Ao, b5.vals, ?_⟩;have e2 : (Ad U.V (.lenL z)).toNat = (Ab U.V z).rows.length := by rw [Ao]; simp
     rw [e2];refine .cells _ ht' (.inl ⟨e', rfl⟩) (by simp [Builtin.lenOf]) (fun w' hw' => ?_)
     simp only [Builtin.firstCells, ← hsz];exact AL E.P w' base.cb base.co _ cur et fz (by rw [hw']; exact b2) b5.1
    | aslEnd _ _ _ _ a h0 hnl =>
     rw [Ao] at h0;have e0 : (Ab U.V z).rows = [] := List.eq_nil_of_length_eq_zero (by omega)
     exact ⟨[], [], by rw [er, e0], by rw [Ao, e0], .nil, none_ a⟩
   ·cases hs
  ·cases hs
 ·rename_i b off n es;split at hs
  ·rename_i hes;split at hs
   ·rename_i l hl;split at hs
    ·rename_i y1 hy;cases hs;have := AG hes;subst this;obtain ⟨vs, v1, v2, v3⟩ := I6 hE (e := e) (ks := ks) hr hx hl;obtain ⟨rs, q1, q2, q3⟩ := Fg n y y' l vs hy v1;refine ⟨rs, vs, q2, by rw [q1]; rfl, q3, ?_⟩
     rw [q1];rcases v3 with ⟨rfl, a, rfl⟩ | ⟨base, cur, et, fz, cap, sz, c, p1, p2, rfl, p4, p5, p6, p7, p8, p9⟩
     ·have : vs = [] := List.eq_nil_of_length_eq_zero (by simpa using v2)
      subst this;exact none_ (some a)
     ·refine .cells _ ht' (.inl ⟨e', rfl⟩) (by simp [Builtin.lenOf]) (fun w' hw' => ?_)
      have hle : n * ks.length ≤ cap * ks.length := Nat.mul_le_mul_right _ p4;have := AL E.P w' base.cb (base.co + off) (n * ks.length) cur et fz (by rw [hw']; exact p6) (by rw [p7]; omega)
      simp only [Builtin.firstCells, ← hsz, this]
      congr 2
      apply List.ext_getElem?;intro q;rw [List.getElem?_take];by_cases hq : q < n * ks.length
      ·rw [if_pos hq, List.getElem?_drop, Array.getElem?_toList, p9 q (by omega)]
      ·rw [if_neg hq, List.getElem?_eq_none (by omega)]
    ·cases hs
   ·cases hs
  ·cases hs
 ·cases hs
inductive LL (ρ : Ren) (h : Aa) (w : World) (ks : List Kd) (ys nls : SE) : Option Nat → Value → Prop
 | none (b : Option Nat) (a : Option Addr) (hy : (Ab U.V ys).rows = []) (hn : a.isNone = Ah U.V nls) : LL ρ h w ks ys nls b (.slice a 0 0)
 | blk (b off cap : Nat) (base : Db) (cur : Array Value) (et : TypeId) (fz : Nat × Nat) (hb : ρ b = some base) (hl : h.blk.get b ≠ .none) (hc : (Ab U.V ys).rows.length ≤ cap) (hz : base.co + off + cap * ks.length ≤ base.csz)
   (hw : w.heap[base.cb]? = some (.cells cur et fz)) (hs : cur.size = base.csz) (hf : fz.1 = fz.2 ∨ base.csz ≤ fz.1) (hv : Bo U.K ρ.imm ks cur (base.co + off) (Ab U.V ys).rows) (hn : Ah U.V nls = false) :
   LL ρ h w ks ys nls (some b) (.slice (some ⟨base.cb, base.co + off, .none⟩) (Ab U.V ys).rows.length cap)
theorem VP (hr : HR ρ h.blk.get w) {e : TypeId} {ks : List Kd} (hk : E.kinds e = some ks) {s : AV} {sv : Value} {ys nls : SE} {bs : Option Nat} (hx : VR ρ s sv) (hb : ST e ks h s = some (ys, nls, bs)) : LL ρ h w ks ys nls bs sv := by
 have hk2 : U.K e = some ks := by rw [hE.kd, ← hE.ke]; exact hk
 unfold ST at hb;split at hb
 ·cases hb; cases hx;exact .none _ _ rfl rfl
 ·cases hb; cases hx;rename_i a hn;exact .none _ _ rfl hn
 ·rename_i b off n es;split at hb
  ·rename_i hes;split at hb
   ·rename_i l hl;split at hb
    ·rename_i y hy;cases hb;have := AG hes;subst this;obtain ⟨vs, v1, v2, v3⟩ := I6 hE (e := e) (ks := ks) hr hx hl;obtain ⟨rs, q1, q2, q3⟩ := Fg n .emptyL ys l vs hy v1;have er : (Ab U.V ys).rows = rs := by rw [q2]; rfl
     rcases v3 with ⟨rfl, a, rfl⟩ | ⟨base, cur, et, fz, cap, sz, c, p1, p2, rfl, p4, p5, p6, p7, p8, p9⟩
     ·exact .none _ _ (by rw [er]; exact List.eq_nil_of_length_eq_zero q1) rfl
     ·have hle : n * ks.length ≤ cap * ks.length := Nat.mul_le_mul_right _ p4
      have := LL.blk (ρ := ρ) (h := h) (w := w) (ks := ks) (ys := ys) (nls := .bc false) b off cap base cur et fz p1 (by rw [p2]; exact Option.some_ne_none _) (by rw [er, q1]; exact p4) p5 p6 p7 p8
       (by rw [er]; exact q3.at (by rw [v2, p7]; omega) p9) rfl
      rw [er, q1] at this;exact this
    ·cases hb
   ·cases hb
  ·cases hb
 ·rename_i b es n nl;split at hb
  ·rename_i e1 z hes hbk;split at hb
   ·rename_i hc;cases hb;obtain ⟨c1, c2⟩ := Av hc;have := AG c1;subst this;have := AG hes;subst this;have hx := Jg c2 hx;clear c2;cases hx with
    | asl _ _ _ _ cap base hρ h0 hcap hz hnl =>
     obtain ⟨ks', cur, et, fz, b1, b2, b3, b4, b5⟩ := hr.blk b base _ hρ hbk;rw [hk2] at b1; cases b1;have e2 : (Ad U.V (.lenL ys)).toNat = (Ab U.V ys).rows.length := by rw [Ao]; simp
     rw [e2] at hcap ⊢;exact LL.blk (ρ := ρ) (h := h) (w := w) (ks := ks) b 0 cap base cur et fz hρ (by rw [hbk]; exact Option.some_ne_none _) hcap (by simpa using hz) b2 b3 b4 (by simpa using b5) hnl
    | aslEnd _ _ _ _ a h0 hnl =>
     rw [Ao] at h0;exact .none _ _ (List.eq_nil_of_length_eq_zero (by omega)) hnl
   ·cases hb
  ·cases hb
 ·cases hb
omit hE in
theorem HR.phantom (hr : HR ρ h.blk.get w) (hf : ρ h.nx = none) (x : Aq) : HR ρ (h.new x).blk.get w ∧ Ext ρ ρ h (h.new x) w w := by
 have live : ∀ b base, ρ b = some base → (h.new x).blk.get b = h.blk.get b := by
  intro b base hb;simp only [Aa.new, T.get_set];rw [if_neg (by rintro rfl; rw [hf] at hb; cases hb)]
 refine ⟨⟨hr.lt, fun b base y hb hy => hr.blk b base y hb (by rw [← live b base hb]; exact hy), fun b b' base base' hne hb hb' h1 h2 => hr.apart b b' base base' hne hb hb' (by rw [← live b base hb]; exact h1) (by rw [← live b' base' hb']; exact h2), hr.imm, fun k arr b base hk hb hl => hr.off k arr b base hk hb (by rw [← live b base hb]; exact hl)⟩,
  ⟨Ren.le_refl ρ, Nat.le_succ _, fun _ _ e => .inl e, Hz.refl w, fun _ _ _ => rfl, ⟨[], rfl, fun b _ hb => ?_⟩, fun b hb => ?_, fun _ _ e => .inl e⟩⟩
 ·simp only [Aa.new, T.get_set];simp only [Aa.new] at hb;rw [if_neg (by omega)]
 ·simp only [Aa.new, T.get_set] at hb ⊢;by_cases e : h.nx = b
  ·exact .inr ⟨by omega, by omega⟩
  ·rw [if_neg e] at hb; exact .inl hb
omit hE in
theorem Qq (hr : HR ρ h.blk.get w) (o : Option Nat) : HR ρ (EL h o).blk.get w ∧ Ext ρ ρ h (EL h o) w w ∧ (EL h o).nx = h.nx := by
 cases o with
 | none => exact ⟨hr, Ext.refl _ _ _, rfl⟩
 | some b => obtain ⟨p1, p2⟩ := hr.strike b; exact ⟨p1, p2, rfl⟩
theorem HL (hr : HR ρ h.blk.get w) {t t' ty : TypeId} {s x a : AV} {sv xv : Value} {h' : Aa} (hs : VR ρ s sv) (hx : VR ρ x xv) (ha : Ik E t t' s x h = some (a, h')) (hf : Bg ρ h.nx h'.nx)
  (hA : ∀ a h', Io E t t' s x h = some (a, h') → Bg ρ h.nx h'.nx → A7 E ρ h h' w (Builtin.append_ #[t, t'] ty #[sv, xv]) a) :
  A7 E ρ h h' w (Builtin.append_ #[t, t'] ty #[sv, xv]) a := by
 unfold Ik at ha;split at ha
 ·exact hA a h' ha hf
 ·split at ha
  ·rename_i e e' hd hd';split at ha
   ·rename_i inf ks z hi hk hz;split at ha
    ·rename_i hc;split at ha
     ·rename_i ys nls bs hbase;split at ha
      ·rename_i y m hsrc;split at ha
       ·rename_i hb;cases ha;obtain ⟨c12, c3⟩ := Av hc;obtain ⟨c1, c2⟩ := Av c12;have hsz := AG c1;have hzl := AG c2;have hby := Dh c3;have hinf := hE.ty e inf hi;have hk2 : U.K e = some ks := by rw [hE.kd, ← hE.ke]; exact hk
        obtain ⟨b1, b2⟩ := Av hb;have b1 := HW b1;have b2 := HW b2;rw [Ay, decide_eq_true_eq, Ao, BN] at b1;rw [Ay, decide_eq_true_eq, BN] at b2;have ht := hE.und hd;have ht' := hE.und hd';obtain ⟨rs, nv, s1, s2, s3, s4⟩ := WZ hE hr hk hsz ht' hx hsrc;have hB := VP hE hr hk hs hbase;obtain ⟨i', zv, i1, i2, i3⟩ := GK hz;rw [hi] at i1; cases i1
        have hzc : zv.cells.size = inf.size := by
         have := ((AR ρ i3).cells (Bx i3)).1;simp at this; omega
        have hnvl : nv.length = rs.length * inf.size := by rw [s3.1, hsz]
        have hrl : rs.length < 1048576 := by omega
        have hyl : Ad U.V (.lenL y) = (((Ab U.V ys).rows.length + rs.length : Nat) : Int) := by rw [Ao, s1]; simp
        have hnl : Ah U.V (.and nls (.eql m (.c 0))) = (Ah U.V nls && (Ad U.V m == 0)) := rfl;have hfree : ρ h.nx = none := hf h.nx (Nat.le_refl _) (by cases bs <;> simp [Aa.new, EL, Aa.strike])
        obtain ⟨o1, o2, o3⟩ := Qq hr bs
        have grow : ∀ (base : Option Addr) (sLen cap : Nat) (ov : List Value), sv = .slice base sLen cap → sLen = (Ab U.V ys).rows.length → sLen ≤ cap → cap < sLen + rs.length → Bm U.K ρ.imm ks ov (Ab U.V ys).rows →
          (∀ w' : World, w'.heap = w.heap → (Builtin.firstCells inf.size sLen (.slice base sLen cap)).run E.P w' = .ok ov.toArray w') →
          A7 E ρ h ((EL h bs).new (.arr e y)) w (Builtin.append_ #[t, t'] ty #[sv, xv]) (.asl h.nx inf.size (.lenL y) (.and nls (.eql m (.c 0)))) := by
         intro base sLen cap ov hsv hsl hle hgr hov hfc;subst hsv;have hb1 : (sLen + rs.length) * inf.bytes ≤ 1074790400 * 1024 := Nat.mul_le_mul (by omega) hby
         obtain ⟨cap', k1, k2⟩ := EV t t' ty e inf ht hinf zv i2 xv rs.length nv s4 base sLen cap hgr (by omega) (by omega) ov.toArray hfc
         generalize hzz : Builtin.zeroCells zv.cells (cap' - (sLen + rs.length)) = zs at k2;have hzsz : zs.size = (cap' - (sLen + rs.length)) * inf.size := by rw [← hzz]; simp [Builtin.zeroCells, hzc]
         have hasz : (ov.toArray ++ nv.toArray ++ zs).size = cap' * inf.size := by
          have hovl : ov.length = sLen * inf.size := by rw [hov.1, hsz, hsl]
          simp only [Array.size_append, List.size_toArray, hovl, hnvl, hzsz];rw [← Nat.add_mul, ← Nat.add_mul]
          congr 1; omega
         have hvals := hov.append s3;rw [← s1] at hvals
         have hrows : Bo U.K ρ.imm ks (ov.toArray ++ nv.toArray ++ zs) 0 (Ab U.V y).rows := hvals.at (by simp) (fun q hq => by
          have hq' : q < ov.length + nv.length := by simpa using hq
          rw [Nat.zero_add, Array.getElem?_append_left (by simpa using hq')]
          simp only [List.append_toArray, List.getElem?_toArray])
         have hr1 : HR ρ (EL h bs).blk.get { w with drawn := w.drawn + 1 } := o1.same rfl
         have hf1 : ρ (EL h bs).nx = none := by rw [o3]; exact hfree
         obtain ⟨p1, p2⟩ := hr1.new hf1 (.arr e y) (.cells (ov.toArray ++ nv.toArray ++ zs) e) (cap' * inf.size) ⟨ks, _, e, _, hk2, rfl, hasz, .inl rfl, hrows⟩ { w with drawn := w.drawn + 1, heap := w.heap.push (.cells (ov.toArray ++ nv.toArray ++ zs) e) } rfl rfl rfl rfl
         refine ⟨_, _, _, k2, ?_, p1, (o2.trans (Ext.drawn p2 rfl rfl rfl rfl) hf)⟩;rw [o3];have hNl : (Ad U.V (.lenL y)).toNat = sLen + rs.length := by rw [hyl, hsl]; exact Int.toNat_natCast _
         have := VR.asl (ρ := ρ.upd h.nx ⟨w.heap.size, 0, cap' * inf.size⟩) h.nx inf.size (.lenL y) (.and nls (.eql m (.c 0))) cap' ⟨w.heap.size, 0, cap' * inf.size⟩ (Ren.upd_same _ _ _) (by rw [hyl]; exact Int.natCast_nonneg _) (by rw [hNl]; exact k1) (by show 0 + cap' * inf.size ≤ cap' * inf.size; rw [Nat.zero_add]; exact Nat.le_refl _) (by
          rw [hnl, s2];have : ((rs.length : Int) == 0) = false := by simp; intro e; rw [e] at hgr; simp at hgr; omega
          rw [this, Bool.and_false])
         rw [hNl] at this;exact this
        cases hB with
        | none _ ad hy hn =>
         have hy0 : (Ab U.V ys).rows.length = 0 := by rw [hy]; rfl
         by_cases hm : rs.length = 0
         ·
          have hnv : nv = [] := List.eq_nil_of_length_eq_zero (by rw [hnvl, hm]; simp)
          subst hnv;obtain ⟨p1, p2⟩ := HR.phantom o1 (by rw [o3]; exact hfree) (.arr e y)
          refine ⟨ρ, .slice ad 0 0, w, ?_, .aslEnd _ _ _ _ _ (by rw [hyl, hy0, hm]; rfl) ?_, p1, o2.trans p2 hf⟩
          ·rw [C8 t t' ty e inf ht hinf xv rs.length [] s4 ad 0 0 (by omega)]
           cases ad with
           | none => simp [hm]
           | some ad => simp [storeCells, hm]
          ·rw [hnl, s2, hm, hn]; simp
         ·exact grow ad 0 0 [] rfl hy0.symm (Nat.le_refl _) (by omega) (by rw [hy]; exact .nil) (fun w' _ => by
           cases ad with
           | none => simp [Builtin.firstCells]
           | some ad => simp [Builtin.firstCells, loadCells, loadCellsFrom])
        | blk b off cap base cur et fz hb hl hcap hzz hw hcs hfz hv hn =>
         by_cases hroom : (Ab U.V ys).rows.length + rs.length ≤ cap
         ·
          have hfit : ((Ab U.V ys).rows.length + rs.length) * ks.length ≤ cap * ks.length := Nat.mul_le_mul_right _ hroom;rw [Nat.add_mul] at hfit
          have hone : ∀ v ∈ nv, v.oneCell' = true := by
           intro v hvm;obtain ⟨q, hq, rfl⟩ := List.getElem_of_mem hvm
           have hpos : 0 < ks.length := by
            rcases Nat.eq_zero_or_pos ks.length with h0 | h0
            ·rw [s3.1, h0] at hq; simp at hq
            ·exact h0
           have hqd : q / ks.length < rs.length := by
            rw [s3.1] at hq;exact Nat.div_lt_of_lt_mul (by rw [Nat.mul_comm]; exact hq)
           have hqm : q % ks.length < ks.length := Nat.mod_lt _ hpos;have := s3.2.2 (q / ks.length) (q % ks.length) (ks[q % ks.length]) hqd (by simp [hqm])
           have e1 : q / ks.length * ks.length + q % ks.length = q := by rw [Nat.mul_comm]; exact Nat.div_add_mod _ _
           rw [e1] at this;have e2 : nv.getD q Go.undef = nv[q] := by simp [List.getD_eq_getElem?_getD, hq]
           rw [e2] at this;generalize nv[q] = v0 at this;generalize ks[q % ks.length] = kq at this;cases this <;> rfl
          obtain ⟨w', cur', q1, q2, q3, q4, q5, q6, q7, q8, q9⟩ := Cg E.P base.cb (base.co + off + (Ab U.V ys).rows.length * ks.length) et fz nv 0 w cur hw (by rw [s3.1, hcs]; omega) (by rw [hcs]; exact hfz) hone
          have hrows : Bo U.K ρ.imm ks cur' (base.co + off) (Ab U.V y).rows := by
           have hvals := hv.vals.append s3;rw [← s1] at hvals
           have hl1 : ((cur.toList.drop (base.co + off)).take ((Ab U.V ys).rows.length * ks.length)).length = (Ab U.V ys).rows.length * ks.length := by
            have := hv.1; simp; omega
           refine hvals.at (by rw [List.length_append, hl1, s3.1, q3, hcs]; omega) (fun q hq => ?_)
           rw [List.length_append, hl1] at hq;rw [q4];simp only [Nat.add_zero];by_cases hq1 : q < (Ab U.V ys).rows.length * ks.length
           ·rw [if_neg (by omega), List.getElem?_append_left (by rw [hl1]; exact hq1), List.getElem?_take, if_pos hq1, List.getElem?_drop, Array.getElem?_toList]
           ·rw [if_pos (by omega), List.getElem?_append_right (by rw [hl1]; omega), hl1]
            congr 1; omega
          obtain ⟨p1, p2⟩ := hr.move hb hl hfree (base' := ⟨base.cb, base.co + off, base.csz⟩) rfl (.arr e y) w' ⟨ks, cur', et, fz, hk2, q2, by rw [q3, hcs], hfz, hrows⟩ q5 q6 q7 q8 q9
          refine ⟨_, .slice (some ⟨base.cb, base.co + off, none⟩) ((Ab U.V ys).rows.length + rs.length) cap, w', ?_, ?_, p1, p2⟩
          ·rw [C8 t t' ty e inf ht hinf xv rs.length nv s4 _ _ cap hroom];simp only [Cl, ← hsz];rw [q1];rfl
          ·have hNl : (Ad U.V (.lenL y)).toNat = (Ab U.V ys).rows.length + rs.length := by rw [hyl]; exact Int.toNat_natCast _
           have := VR.asl (ρ := ρ.upd h.nx ⟨base.cb, base.co + off, base.csz⟩) h.nx inf.size (.lenL y) (.and nls (.eql m (.c 0))) cap ⟨base.cb, base.co + off, base.csz⟩ (Ren.upd_same _ _ _) (by rw [hyl]; omega) (by rw [hNl]; exact hroom) (by rw [← hsz]; exact hzz) (by rw [hnl, hn]; rfl)
           rw [hNl] at this;exact this
         ·have hovl : ((cur.toList.drop (base.co + off)).take ((Ab U.V ys).rows.length * ks.length)).length = (Ab U.V ys).rows.length * ks.length := by
           have := hv.1; simp; omega
          exact grow (some ⟨base.cb, base.co + off, none⟩) _ cap _ rfl rfl hcap (by omega) hv.vals (fun w' hw' => by
           simp only [Builtin.firstCells, ← hsz];exact AL E.P w' base.cb (base.co + off) _ cur et fz (by rw [hw']; exact hw) hv.1)
       ·cases ha
      ·cases ha
     ·cases ha
    ·cases ha
   ·cases ha
  ·cases ha
end
end Go.AE
namespace Go.AE
variable [U : Unk]
section
variable {E : Env} {ρ : Ren} {w : World} (hE : OK E)
include hE
theorem Wr {t : TypeId} (hd : E.desc t = some .bool) (n : Nat) (a b : Bool) : aeq E (n + 1) t (.bool a) (.bool b) = some (a == b) := by
 simp only [aeq, hd]
theorem Hu {op : BinOp} {t : TypeId} {ox oy : Operand} (hd : E.desc t = some .bool) (a b q : Bool) (hq : BV op (a == b) = some q) :
  (do eqGuard op t ox oy (.bool a) (.bool b); binOp op t (.bool a) (.bool b) : Sem Value).run E.P w = .ok (.bool q) w := by
 have hb : QQ E op t (.bool a) (.bool b) = some (.bool q) := by
  have h1 := Wr hE hd 9999 a b;cases op <;> simp only [BV, reduceCtorEq, Option.some.injEq] at hq
  ·subst hq; show (aeq E 10000 t _ _).map AV.bool = _; rw [h1]; rfl
  ·subst hq; show ((aeq E 10000 t _ _).map fun b => AV.bool (!b)) = _; rw [h1]; rfl
 obtain ⟨v, q1, q2⟩ := R9 (ρ := Ren.empty) (w := w) (ox := ox) (oy := oy) hE (.bool a) (.bool b) hb;cases q2;exact q1
omit hE in
theorem FB {x : AV} {xv : Value} (hx : VR ρ x xv) : (∀ b, PW x = some (.inl b) → xv = .bool b) ∧ (∀ p e, PW x = some (.inr (p, e)) → xv = .bool (Ah U.V e == p)) := by
 cases x <;> simp only [PW, reduceCtorEq, false_imp_iff, implies_true, and_self]
 ·rename_i b;cases hx;exact ⟨fun c h => (by cases h; rfl), fun p e h => (by cases h)⟩
 ·rename_i p e;cases hx;refine ⟨fun b h => ?_, fun p' e' h => ?_⟩
  ·split at h
   ·rename_i c hc;cases h;rw [Aw U.ok hc]
   ·cases h
  ·split at h
   ·cases h
   ·cases h; rfl
theorem IF {op : BinOp} {t e : TypeId} {ox oy : Operand} (hd : E.desc t = some (.slice e)) (a : Option Addr) (n c : Nat) (q : Bool) (hq : BV op a.isNone = some q) (h0 : a = none → n = 0 ∧ c = 0) :
  (do eqGuard op t ox oy (.slice a n c) (.slice none 0 0); binOp op t (.slice a n c) (.slice none 0 0) : Sem Value).run E.P w = .ok (.bool q) w ∧
  (do eqGuard op t ox oy (.slice none 0 0) (.slice a n c); binOp op t (.slice none 0 0) (.slice a n c) : Sem Value).run E.P w = .ok (.bool q) w := by
 have hu := hE.run_und hd w;have g1 : (eqGuard op t ox oy (.slice a n c) (.slice none 0 0)).run E.P w = .ok () w := B6 (by simp) (by simp)
 have g2 : (eqGuard op t ox oy (.slice none 0 0) (.slice a n c)).run E.P w = .ok () w := B6 (by simp) (by simp)
 obtain ⟨b1, b2⟩ := Ej t (.slice a n c) (.slice none 0 0) (by simp) (by simp) (by simp) (by simp)
 obtain ⟨b3, b4⟩ := Ej t (.slice none 0 0) (.slice a n c) (by simp) (by simp) (by simp) (by simp)
 have f1 : ∀ m : Nat, (Op.equalIn (m + 1) t (.slice a n c) (.slice none 0 0)).run E.P w = .ok a.isNone w := by
  intro m;cases a <;> simp [Op.equalIn, hu]
 have f2 : ∀ m : Nat, (Op.equalIn (m + 1) t (.slice none 0 0) (.slice a n c)).run E.P w = .ok a.isNone w := by
  intro m;cases a <;> simp [Op.equalIn, hu]
 have e1 : (Op.equal t (.slice a n c) (.slice none 0 0)).run E.P w = .ok a.isNone w := f1 9999;have e2 : (Op.equal t (.slice none 0 0) (.slice a n c)).run E.P w = .ok a.isNone w := f2 9999;cases op <;> simp only [BV, reduceCtorEq, Option.some.injEq] at hq
 ·subst hq;refine ⟨?_, ?_⟩
  ·simp only [Sem.run_bind, g1, Result.andThen_ok, b1, e1]; rfl
  ·simp only [Sem.run_bind, g2, Result.andThen_ok, b3, e2]; rfl
 ·subst hq;refine ⟨?_, ?_⟩
  ·simp only [Sem.run_bind, g1, Result.andThen_ok, b2, e1]; rfl
  ·simp only [Sem.run_bind, g2, Result.andThen_ok, b4, e2]; rfl
theorem L9 {op : BinOp} {t kt vt : TypeId} {ox oy : Operand} (hd : E.desc t = some (.map kt vt)) (a : Option Nat) (q : Bool) (hq : BV op a.isNone = some q) :
  (do eqGuard op t ox oy (.map a) (.map none); binOp op t (.map a) (.map none) : Sem Value).run E.P w = .ok (.bool q) w ∧
  (do eqGuard op t ox oy (.map none) (.map a); binOp op t (.map none) (.map a) : Sem Value).run E.P w = .ok (.bool q) w := by
 have hu := hE.run_und hd w;have g1 : (eqGuard op t ox oy (.map a) (.map none)).run E.P w = .ok () w := B6 (by simp) (by simp)
 have g2 : (eqGuard op t ox oy (.map none) (.map a)).run E.P w = .ok () w := B6 (by simp) (by simp)
 obtain ⟨b1, b2⟩ := Ej t (.map a) (.map none) (by simp) (by simp) (by simp) (by simp)
 obtain ⟨b3, b4⟩ := Ej t (.map none) (.map a) (by simp) (by simp) (by simp) (by simp)
 have f1 : ∀ m : Nat, (Op.equalIn (m + 1) t (.map a) (.map none)).run E.P w = .ok a.isNone w := by
  intro m;cases a <;> simp [Op.equalIn, hu]
 have f2 : ∀ m : Nat, (Op.equalIn (m + 1) t (.map none) (.map a)).run E.P w = .ok a.isNone w := by
  intro m;cases a <;> simp [Op.equalIn, hu]
 have e1 : (Op.equal t (.map a) (.map none)).run E.P w = .ok a.isNone w := f1 9999;have e2 : (Op.equal t (.map none) (.map a)).run E.P w = .ok a.isNone w := f2 9999;cases op <;> simp only [BV, reduceCtorEq, Option.some.injEq] at hq
 ·subst hq;refine ⟨?_, ?_⟩
  ·simp only [Sem.run_bind, g1, Result.andThen_ok, b1, e1]; rfl
  ·simp only [Sem.run_bind, g2, Result.andThen_ok, b3, e2]; rfl
 ·subst hq;refine ⟨?_, ?_⟩
  ·simp only [Sem.run_bind, g1, Result.andThen_ok, b2, e1]; rfl
  ·simp only [Sem.run_bind, g2, Result.andThen_ok, b4, e2]; rfl
omit hE in
theorem S0 {x : AV} {xv : Value} {s : SE} (hx : VR ρ x xv) (h : XR x = some s) : ∃ a, xv = .map a ∧ Ah U.V s = a.isNone := by
 cases hx <;> simp only [XR, reduceCtorEq, Option.some.injEq] at h <;> subst h
 ·exact ⟨none, rfl, rfl⟩
 ·exact ⟨_, rfl, rfl⟩
 ·rename_i hn;exact ⟨_, rfl, by rw [hn]; rfl⟩
 ·rename_i hn;exact ⟨_, rfl, by rw [hn]; rfl⟩
omit hE in
theorem SF {x : AV} {xv : Value} {s : SE} (hx : VR ρ x xv) (h : XD x = some s) : ∃ a n c, xv = .slice a n c ∧ (a = none → n = 0 ∧ c = 0) ∧ Ah U.V s = a.isNone := by
 cases hx <;> simp only [XD, reduceCtorEq, Option.some.injEq] at h <;> subst h
 ·exact ⟨none, 0, 0, rfl, fun _ => ⟨rfl, rfl⟩, rfl⟩
 ·exact ⟨_, _, _, rfl, fun h => (by cases h), rfl⟩
 ·exact ⟨_, _, _, rfl, fun h => (by cases h), rfl⟩
 ·rename_i e x a n c hd;refine ⟨a, n, c, rfl, ?_, ?_⟩
  ·rintro rfl
   cases hd; exact ⟨rfl, rfl⟩
  ·have : Ah U.V (.isNil x) = (Ab U.V x).isNil := rfl;rw [this];cases hd with
   | nil _ _ h1 => rw [h1]; rfl
   | empty _ _ _ _ h1 => rw [h1]; rfl
   | slc _ _ _ _ _ _ _ _ _ _ _ _ h1 => rw [h1]; rfl
 ·rename_i hn;exact ⟨_, _, _, rfl, fun h => (by cases h), by rw [hn]; rfl⟩
 ·rename_i a h0 hn;exact ⟨a, 0, 0, rfl, fun _ => ⟨rfl, rfl⟩, hn.symm⟩
 ·rename_i a hn;exact ⟨a, 0, 0, rfl, fun _ => ⟨rfl, rfl⟩, hn.symm⟩
omit hE in
theorem ID {op : BinOp} {p q : Bool} (h : BV op p = some q) (x : Bool) : BV op (x == p) = some (x == q) := by
 cases op <;> simp only [BV, reduceCtorEq, Option.some.injEq] at h ⊢ <;> subst h <;> cases x <;> cases p <;> rfl
theorem Z8 {op : BinOp} {t : TypeId} {ox oy : Operand} {x y r : AV} {xv yv : Value} (hx : VR ρ x xv) (hy : VR ρ y yv) (hr : eqV (E.desc t) op x y = some r) :
  ∃ v, (do eqGuard op t ox oy xv yv; binOp op t xv yv : Sem Value).run E.P w = .ok v w ∧ VR ρ r v := by
 unfold eqV at hr;split at hr
 ·rename_i hd;split at hr
  ·rename_i a b h1 h2;rw [(FB hx).1 _ h1, (FB hy).1 _ h2];cases hq : BV op (a == b) with
   | none => rw [hq] at hr; cases hr
   | some q => rw [hq] at hr; cases hr; exact ⟨_, Hu hE hd a b q hq, .bool q⟩
  ·rename_i p e b h1 h2;rw [(FB hx).2 _ _ h1, (FB hy).1 _ h2];cases hq : BV op (p == b) with
   | none => rw [hq] at hr; cases hr
   | some q =>
    rw [hq] at hr; cases hr;refine ⟨_, Hu hE hd _ _ (Ah U.V e == q) ?_, .sb q e⟩;have := ID hq (Ah U.V e);rw [← this]; congr 1;cases Ah U.V e <;> cases p <;> cases b <;> rfl
  ·rename_i b p e h1 h2;rw [(FB hx).1 _ h1, (FB hy).2 _ _ h2];cases hq : BV op (p == b) with
   | none => rw [hq] at hr; cases hr
   | some q =>
    rw [hq] at hr; cases hr;refine ⟨_, Hu hE hd _ _ (Ah U.V e == q) ?_, .sb q e⟩;have := ID hq (Ah U.V e);rw [← this]; congr 1;cases Ah U.V e <;> cases p <;> cases b <;> rfl
  ·cases hr
 ·rename_i e hd
  have one : ∀ {s : SE} {a : Option Addr}, Ah U.V s = a.isNone → (BV op true).map (fun q => mkB q s) = some r → ∃ q, BV op a.isNone = some q ∧ VR ρ r (.bool q) := by
   intro s a hs hm;cases hq : BV op true with
   | none => rw [hq] at hm; cases hm
   | some q =>
    rw [hq] at hm; cases hm;have := ID hq a.isNone;refine ⟨a.isNone == q, ?_, hs ▸ GS ρ q s⟩;rw [← this]; congr 1; cases a.isNone <;> rfl
  split at hr
  ·split at hr
   ·rename_i s hs;cases hx;obtain ⟨a, n, c, rfl, h0, hb⟩ := SF hy hs;obtain ⟨q, q1, q2⟩ := one hb hr;exact ⟨_, (IF hE hd a n c q q1 h0).2, q2⟩
   ·cases hr
  ·split at hr
   ·rename_i s hs;cases hy;obtain ⟨a, n, c, rfl, h0, hb⟩ := SF hx hs;obtain ⟨q, q1, q2⟩ := one hb hr;exact ⟨_, (IF hE hd a n c q q1 h0).1, q2⟩
   ·cases hr
  ·cases hr
 ·rename_i kt vt hd
  have one : ∀ {s : SE} {a : Option Nat}, Ah U.V s = a.isNone → (BV op true).map (fun q => mkB q s) = some r → ∃ q, BV op a.isNone = some q ∧ VR ρ r (.bool q) := by
   intro s a hs hm;cases hq : BV op true with
   | none => rw [hq] at hm; cases hm
   | some q =>
    rw [hq] at hm; cases hm;have := ID hq a.isNone;refine ⟨a.isNone == q, ?_, hs ▸ GS ρ q s⟩;rw [← this]; congr 1; cases a.isNone <;> rfl
  split at hr
  ·split at hr
   ·rename_i s hs;cases hx;obtain ⟨a, rfl, hb⟩ := S0 hy hs;obtain ⟨q, q1, q2⟩ := one hb hr;exact ⟨_, (L9 hE hd a q q1).2, q2⟩
   ·cases hr
  ·split at hr
   ·rename_i s hs;cases hy;obtain ⟨a, rfl, hb⟩ := S0 hx hs;obtain ⟨q, q1, q2⟩ := one hb hr;exact ⟨_, (L9 hE hd a q q1).1, q2⟩
   ·cases hr
  ·cases hr
 ·cases hr
omit hE in
theorem LC (P : Program) (k : IntKind) : ∀ {l : List AV} {l' : List Value} {x : SE} {a : AV}, VL ρ l l' → MB k x l = some a → ∃ v, (l'.foldlM Builtin.max2 (.int k (Ad U.V x))).run P w = .ok v w ∧ VR ρ a v
 | [], l', x, a, hl, h => by
  rw [hl.nil_inv];simp only [MB, Option.some.injEq] at h;subst h;exact ⟨_, by simp, C2 ρ k x⟩
 | y :: r, l', x, a, hl, h => by
  obtain ⟨v, r', rfl, hv, hr⟩ := hl.cons_inv;simp only [MB] at h;split at h
  ·rename_i k' b hb;have ev := CY hv hb;subst ev;split at h
   ·rename_i hd;have := Aw U.ok hd;rw [Ay, decide_eq_true_eq] at this;obtain ⟨u, q1, q2⟩ := LC P k hr h;refine ⟨u, ?_, q2⟩;simp only [List.foldlM_cons, Builtin.max2, Sem.run_bind, Sem.run_pure, Result.andThen_ok];rw [if_pos (by omega)]; exact q1
   ·rename_i hd;have := Aw U.ok hd;rw [Ay, decide_eq_false_iff_not] at this;obtain ⟨u, q1, q2⟩ := LC P k hr h;refine ⟨u, ?_, q2⟩;simp only [List.foldlM_cons, Builtin.max2, Sem.run_bind, Sem.run_pure, Result.andThen_ok];rw [if_neg (by omega)]; exact q1
   ·cases h
  ·cases h
omit hE in
theorem KZ (P : Program) (k : IntKind) : ∀ {l : List AV} {l' : List Value} {x : SE} {a : AV}, VL ρ l l' → Mx k x l = some a → ∃ v, (l'.foldlM Builtin.min2 (.int k (Ad U.V x))).run P w = .ok v w ∧ VR ρ a v
 | [], l', x, a, hl, h => by
  rw [hl.nil_inv];simp only [Mx, Option.some.injEq] at h;subst h;exact ⟨_, by simp, C2 ρ k x⟩
 | y :: r, l', x, a, hl, h => by
  obtain ⟨v, r', rfl, hv, hr⟩ := hl.cons_inv;simp only [Mx] at h;split at h
  ·rename_i k' b hb;have ev := CY hv hb;subst ev;split at h
   ·rename_i hd;have := Aw U.ok hd;rw [Ay, decide_eq_true_eq] at this;obtain ⟨u, q1, q2⟩ := KZ P k hr h;refine ⟨u, ?_, q2⟩;simp only [List.foldlM_cons, Builtin.min2, Sem.run_bind, Sem.run_pure, Result.andThen_ok];rw [if_pos (by omega)]; exact q1
   ·rename_i hd;have := Aw U.ok hd;rw [Ay, decide_eq_false_iff_not] at this;obtain ⟨u, q1, q2⟩ := KZ P k hr h;refine ⟨u, ?_, q2⟩;simp only [List.foldlM_cons, Builtin.min2, Sem.run_bind, Sem.run_pure, Result.andThen_ok];rw [if_neg (by omega)]; exact q1
   ·cases h
  ·cases h
omit hE in
theorem Vz {ats : Array TypeId} {ty : TypeId} {args : List AV} {args' : List Value} {a : AV} (ha : VL ρ args args') (hq : V1 args = some a) : ∃ v, (Builtin.max_ ats ty args'.toArray).run E.P w = .ok v w ∧ VR ρ a v := by
 cases args with
 | nil => cases hq
 | cons x r =>
  obtain ⟨v, r', rfl, hv, hl⟩ := ha.cons_inv;simp only [V1] at hq;split at hq
  ·rename_i k e he;have ev := CY hv he;subst ev;obtain ⟨u, q1, q2⟩ := LC (w := w) E.P k hl hq;exact ⟨u, by simpa [Builtin.max_] using q1, q2⟩
  ·cases hq
omit hE in
theorem Uo {ats : Array TypeId} {ty : TypeId} {args : List AV} {args' : List Value} {a : AV} (ha : VL ρ args args') (hq : VQ args = some a) : ∃ v, (Builtin.min_ ats ty args'.toArray).run E.P w = .ok v w ∧ VR ρ a v := by
 cases args with
 | nil => cases hq
 | cons x r =>
  obtain ⟨v, r', rfl, hv, hl⟩ := ha.cons_inv;simp only [VQ] at hq;split at hq
  ·rename_i k e he;have ev := CY hv he;subst ev;obtain ⟨u, q1, q2⟩ := KZ (w := w) E.P k hl hq;exact ⟨u, by simpa [Builtin.min_] using q1, q2⟩
  ·cases hq
omit hE in
theorem Zv {op : UnOp} {x r : AV} {xv : Value} (hx : VR ρ x xv) (hr : unB op x = some r) : ∃ v, (Op.unary op xv).run E.P w = .ok v w ∧ VR ρ r v := by
 unfold unB at hr;split at hr
 ·rename_i k e;cases hr;cases hx;refine ⟨_, by simp only [Op.unary, Op.intArith, Sem.run_pure]; rfl, ?_⟩
  have := C2 ρ k (.arith .sub k (.c 0) e);rw [Gl] at this;simpa [Dw, BN] using this
 ·exact aZ hx hr
omit hE in
theorem R4 {ks : List Kd} {z : List AV} {r : SE} (hrow : Gz ks z = some r) : ∀ (n : Nat) (vs : List Value), VL ρ (BA z n) vs → Bm U.K ρ.imm ks vs (List.replicate n (Ab U.V r))
 | 0, vs, h => by
  have := h.nil_inv;subst this;exact .nil
 | n + 1, vs, h => by
  have hzl : z.length = ks.length := by
   have : ∀ (ks : List Kd) (l : List AV) (r : SE), Gz ks l = some r → l.length = ks.length := by
    intro ks
    induction ks with
    | nil => intro l r h; cases l with | nil => rfl | cons => cases h
    | cons k ks ih =>
     intro l r h;cases l with
     | nil => cases h
     | cons a l =>
      simp only [Gz] at h;split at h
      ·rename_i x y hx hy;simp [ih l y hy]
      ·cases h
   exact this ks z r hrow
  have h1 := h.take z.length;have h2 := h.drop z.length;have e1 : (BA z (n + 1)).take z.length = z := by simp [BA]
  have e2 : (BA z (n + 1)).drop z.length = BA z n := by simp [BA]
  rw [e1] at h1;rw [e2] at h2;obtain ⟨q1, q2, q3⟩ := Fm ks z _ r hrow h1;have := (Bm.one (ρ := ρ) q1 q2 q3).append (R4 hrow n _ h2);rw [List.take_append_drop] at this;simpa [List.replicate_succ] using this
theorem Mn {h h' : Aa} (hr : HR ρ h.blk.get w) {t : TypeId} {l c a : AV} {lv cv : Value} (hl : VR ρ l lv) (hcv : VR ρ c cv) (hb : HJ E t l c h = some (a, h')) (hf : Bg ρ h.nx h'.nx) :
  A7 E ρ h h' w (Instr.makeSlice t lv cv) a := by
 unfold HJ at hb;split at hb
 ·rename_i k ie;split at hb
  ·rename_i k2 im;split at hb
   ·rename_i e hc0 hd;split at hb
    ·rename_i inf ks z hi hk hz;split at hb
     ·rename_i r hc hrow;cases hb;obtain ⟨hk0, hsame⟩ := Av hc0;have hk1 : k = .i64 := by simpa using hk0
      have hsm := SE.same_ok hsame;subst hk1; subst hsm;obtain ⟨hc, c5⟩ := Av hc;obtain ⟨hc, c4⟩ := Av hc;obtain ⟨hc, c3⟩ := Av hc;obtain ⟨c1, c2⟩ := Av hc;have e1 := AG c1;have e2 := AG c2;have e3 := Dh c3;have b4 := It c4;have b5 := HW c5;rw [Ay, decide_eq_false_iff_not, BN] at b4;rw [Ay, decide_eq_true_eq, BN] at b5;cases hl;cases hcv;generalize hN : Ad U.V ie = N at *;obtain ⟨n, rfl⟩ : ∃ n : Nat, N = n := ⟨N.toNat, by omega⟩
      obtain ⟨zv, z1, z2⟩ := hE.run_zero ρ hz w;have zc := (AR ρ z2).cells (Bx z2);have hfree : ρ h.nx = none := hf h.nx (Nat.le_refl _) (by simp [Aa.new])
      have h0 : n * z.cells.length = 0 ∨ (if n * inf.size = 0 then #[] else zv.cells) = zv.cells := by
       rw [e2];by_cases e0 : n * inf.size = 0
       ·exact .inl e0
       ·exact .inr (by rw [if_neg e0])
      have hcells := ED zc n (if n * inf.size = 0 then #[] else zv.cells) h0
      have hvr := R4 (ρ := ρ) hrow n _ hcells;rw [e2] at hcells hvr;have hk2 : U.K e = some ks := by rw [hE.kd, ← hE.ke]; exact hk
      generalize hX : (Array.range (n * inf.size)).map ((if n * inf.size = 0 then #[] else zv.cells)[· % (if n * inf.size = 0 then #[] else zv.cells).size]!) = X at *
      have hXs : X.size = n * inf.size := by rw [← hX]; simp
      have er : (Ab U.V (.rep ie r)).rows = List.replicate n (Ab U.V r) := by
       show List.replicate (Ab U.V ie).toInt.toNat _ = _;have : (Ab U.V ie).toInt = (n : Int) := hN;rw [this]; rfl
      have hrows : Bo U.K ρ.imm ks X 0 (Ab U.V (.rep ie r)).rows := by
       rw [er];exact hvr.at (by simp) (fun q hq => by rw [Nat.zero_add, Array.getElem?_toList])
      obtain ⟨p1, p2⟩ := hr.new hfree (.arr e (.rep ie r)) (.cells X e) X.size ⟨ks, _, e, _, hk2, rfl, rfl, .inl rfl, hrows⟩ { w with heap := w.heap.push (.cells X e) } rfl rfl rfl rfl
      have hwrap := Gb n (by omega)
      refine ⟨_, .slice (some ⟨w.heap.size, 0, none⟩) n n, _, ?_, ?_, p1, p2⟩
      ·have hby : inf.bytes * n ≤ 1024 * 1048577 := Nat.mul_le_mul e3 (by omega)
       simp only [Instr.makeSlice, Sem.run_bind, hE.run_und hd, Result.andThen_ok, asInt, asIntOf, Sem.run_pure, hE.run_info hi, hwrap]
       have hbn : ¬ ((inf.bytes : Int) * (n : Int) > 2 ^ 48) := by
        have : ((inf.bytes * n : Nat) : Int) ≤ 1024 * 1048577 := by omega
        rw [Int.natCast_mul] at this;omega
       have hcond : (decide ((n : Int) < 0) || decide ((inf.bytes : Int) * (n : Int) > 2 ^ 48) || decide ((n : Int) < 0) || decide ((n : Int) > (n : Int))) = false := by
        rw [decide_eq_false hbn, decide_eq_false (show ¬ ((n : Int) < 0) by omega), decide_eq_false (show ¬ ((n : Int) > (n : Int)) by omega)]
        rfl
       rw [if_neg (by rw [hcond]; exact Bool.false_ne_true)]
       simp only [Sem.run_bind, run_askRoom, Result.andThen_ok, Int.toNat_natCast, hE.run_sz hi];by_cases e0 : n * inf.size = 0
       ·rw [if_pos e0] at hX;rw [if_pos e0];simp only [Sem.run_bind, Sem.run_pure, Result.andThen_ok, newRow, run_newObj, hX]
       ·rw [if_neg e0] at hX;rw [if_neg e0];simp only [Sem.run_bind, z1, Sem.run_pure, Result.andThen_ok, newRow, run_newObj, hX]
      ·have hlen : Ad U.V (.lenL (.rep ie r)) = (n : Int) := by rw [Ao, er]; simp
       have := VR.asl (ρ := ρ.upd h.nx ⟨w.heap.size, 0, X.size⟩) h.nx inf.size (.lenL (.rep ie r)) (.bc false) n ⟨w.heap.size, 0, X.size⟩ (Ren.upd_same _ _ _) (by rw [hlen]; exact Int.natCast_nonneg _) (by rw [hlen]; simp) (by show 0 + n * inf.size ≤ X.size; rw [hXs]; omega) rfl
       rw [hlen] at this;simpa using this
     ·cases hb
    ·cases hb
   ·cases hb
  ·cases hb
 ·exact Ms hE hr hl hcv hb hf
end
end Go.AE
namespace Go.AE
variable [U : Unk]
section
variable {E : Env} {w : World} (hE : OK E)
include hE
theorem HR.freeze {ρ : Ren} {h : Aa} (hr : HR ρ h.blk.get w) {b : Nat} {base : Db} (hb : ρ b = some base) (hl : h.blk.get b ≠ none) {cur : Array Value} {e : TypeId} {fz : Nat × Nat} (hw : w.heap[base.cb]? = some (.cells cur e fz)) :
  ∃ σ : Ren, ρ.le σ ∧ σ.imm base.cb = some cur ∧ HR σ (h.strike b).blk.get w ∧ Ext ρ σ h (h.strike b) w w := by
 let σ : Ren := ⟨ρ.m, fun k => if k = base.cb then some cur else ρ.imm k⟩
 have hle : ρ.le σ := ⟨fun _ _ h => h, fun k a hk => by
  show (if k = base.cb then some cur else ρ.imm k) = some a
  rw [if_neg (fun e => hr.off k a b base hk hb hl e.symm)]
  exact hk⟩
 have hstr : ∀ c, (h.strike b).blk.get c ≠ none → c ≠ b ∧ h.blk.get c ≠ none := by
  intro c hc;simp only [Aa.strike, T.get_del] at hc;by_cases e : b = c
  ·rw [if_pos e] at hc; exact absurd rfl hc
  ·rw [if_neg e] at hc; exact ⟨fun e' => e e'.symm, hc⟩
 have hget : ∀ c, c ≠ b → (h.strike b).blk.get c = h.blk.get c := by
  intro c hc;simp only [Aa.strike, T.get_del];rw [if_neg (fun e => hc e.symm)]
 obtain ⟨p1, p2⟩ := hr.strike b;refine ⟨σ, hle, ?_, ⟨hr.lt, ?_, ?_, ?_, ?_⟩, ⟨hle, p2.nx, fun c bs hc => .inl hc, p2.calm, fun _ _ _ => rfl, p2.log, p2.live, ?_⟩⟩
 ·show (if base.cb = base.cb then some cur else _) = _
  rw [if_pos rfl]
 ·intro c bs x hc hx;have hc2 := hstr c (by rw [hx]; exact Option.some_ne_none _)
  rw [hget c hc2.1] at hx;exact (hr.blk c bs x hc hx).mono hle
 ·intro c c' bs bs' hne hc hc' h1 h2;exact hr.apart c c' bs bs' hne hc hc' (hstr c h1).2 (hstr c' h2).2
 ·intro k arr hk;have hk' : (if k = base.cb then some cur else ρ.imm k) = some arr := hk
  by_cases c : k = base.cb
  ·rw [if_pos c] at hk';cases hk';subst c;exact ⟨e, fz, hw⟩
  ·rw [if_neg c] at hk';exact hr.imm k arr hk'
 ·intro k arr c bs hk hc hlc;have hc2 := hstr c hlc;have hk' : (if k = base.cb then some cur else ρ.imm k) = some arr := hk
  by_cases d : k = base.cb
  ·subst d;exact hr.apart c b bs base hc2.1 hc hb hc2.2 hl
  ·rw [if_neg d] at hk';exact hr.off k arr c bs hk' hc hc2.2
 ·intro k arr hk;have hk' : (if k = base.cb then some cur else ρ.imm k) = some arr := hk
  by_cases d : k = base.cb
  ·exact .inr (.inr ⟨b, base, hb, hl, d.symm⟩)
  ·rw [if_neg d] at hk';exact .inl hk'
theorem Kr {ρ : Ren} {h h' : Aa} {kd : Kd} {a a' : AV} {v : Value} (hr : HR ρ h.blk.get w) (ha : VR ρ a v) (hx : Ka E kd a h = (a', h')) :
  ∃ σ : Ren, VR σ a' v ∧ HR σ h'.blk.get w ∧ Ext ρ σ h h' w w := by
 have same : (a, h) = (a', h') → ∃ σ : Ren, VR σ a' v ∧ HR σ h'.blk.get w ∧ Ext ρ σ h h' w w := by
  intro e; cases e;exact ⟨ρ, ha, hr, Ext.refl _ _ _⟩
 unfold Ka at hx;split at hx
 ·rename_i e;split at hx
  ·rename_i b es n nl;split at hx
   ·rename_i e' x ks hg hk;split at hx
    ·rename_i hc;cases hx;obtain ⟨hc, c3⟩ := Av hc;obtain ⟨c1, c2⟩ := Av hc;have e1 := AG c1;subst e1;have e2 := AG c2;have ha := Jg c3 ha;have hk2 : U.K e = some ks := by rw [hE.kd, ← hE.ke]; exact hk
     have hnil : (Ab U.V (.nilIs x nl)).isNil = Ah U.V nl := rfl;have hrw : (Ab U.V (.nilIs x nl)).rows = (Ab U.V x).rows := rfl;cases ha with
     | asl _ _ _ _ cap base hb h0 hcap hz hnl =>
      obtain ⟨ks', cur, et, fz, b1, b2, b3, b4, b5⟩ := hr.blk b base _ hb hg;rw [hk2] at b1; cases b1;obtain ⟨σ, q1, q2, q3, q4⟩ := HR.freeze hE hr hb (by rw [hg]; exact Option.some_ne_none _) b2
      have hlen : (Ad U.V (.lenL x)).toNat = (Ab U.V x).rows.length := by rw [Ao]; simp
      refine ⟨σ, .dat e _ _ _ _ ?_, q3, q4⟩;have b6 := b5.mono q1.imm;exact .slc e base.cb base.co _ cap _ ks cur hk2 q2 (by rw [hrw, hlen]) hcap (by rw [hnil, hnl]) (by rw [hlen]; exact b6.1) (fun i hi => b6.2.1 i (by rw [hlen] at hi; exact hi)) (fun i j kd hi hj => b6.2.2 i j kd (by rw [hlen] at hi; exact hi) hj)
     | aslEnd _ _ _ _ ad h0 hn0 =>
      obtain ⟨p1, p2⟩ := hr.strike b
      have hl0 : (Ab U.V x).rows = [] := by
       rw [Ao] at h0;exact List.eq_nil_of_length_eq_zero (by omega)
      refine ⟨ρ, .dat e _ _ _ _ ?_, p1, p2⟩;cases ad with
      | none => exact .nil e _ (by rw [hnil, ← hn0]; rfl) (by rw [hrw]; exact hl0)
      | some ad => exact .empty e ad 0 _ (by rw [hnil, ← hn0]; rfl) (by rw [hrw]; exact hl0)
    ·exact same hx
   ·exact same hx
  ·rename_i nl;cases hx;cases ha with
   | eslc _ ad hn0 =>
    have hnil : (Ab U.V (.nilIs .nilL nl)).isNil = Ah U.V nl := rfl;refine ⟨ρ, .dat e _ _ _ _ ?_, hr, Ext.refl _ _ _⟩;cases ad with
    | none => exact .nil e _ (by rw [hnil, ← hn0]; rfl) rfl
    | some ad => exact .empty e ad 0 _ (by rw [hnil, ← hn0]; rfl) rfl
  ·rename_i b off n es;split at hx
   ·rename_i ks hk;split at hx
    ·rename_i l hes hl;split at hx
     ·rename_i y hy;cases hx;have hes := AG hes;have hk2 : U.K e = some ks := by rw [hE.kd, ← hE.ke]; exact hk
      obtain ⟨vs, v1, v2, v3⟩ := I6 hE (e := e) (ks := ks) hr ha hl;obtain ⟨rs, r1, r2, r3⟩ := Fg (ρ := ρ) n .emptyL y l vs hy v1;have er : (Ab U.V y).rows = rs := by rw [r2]; rfl
      have hnil : (Ab U.V y).isNil = false := by
       have : ∀ (n : Nat) (y0 y : SE) (l : List AV), DW ks n y0 l = some y → (Ab U.V y0).isNil = false → (Ab U.V y).isNil = false := by
        intro n
        induction n with
        | zero => intro y0 y l h h0; cases l with
         | nil => simp only [DW, Option.some.injEq] at h; subst h; exact h0
         | cons => cases h
        | succ n ih =>
         intro y0 y l h h0;simp only [DW] at h;split at h
         ·exact ih _ _ _ h rfl
         ·cases h
       exact this n .emptyL y l hy rfl
      rcases v3 with ⟨h0, ad, rfl⟩ | ⟨base, cur, et, fz, cap, sz, c, hb, hg, rfl, hcap, hz, hw, hcs, hfz, hv⟩
      ·obtain ⟨p1, p2⟩ := hr.strike b;exact ⟨ρ, .dat e _ _ _ _ (.empty e ad 0 _ hnil (by rw [er]; exact List.eq_nil_of_length_eq_zero (by rw [r1, h0]))), p1, p2⟩
      ·obtain ⟨σ, q1, q2, q3, q4⟩ := HR.freeze hE hr hb (by rw [hg]; exact Option.some_ne_none _) hw
       have hmul : n * es ≤ cap * es := Nat.mul_le_mul_right _ hcap;have hrows : Bo U.K ρ.imm ks cur (base.co + off) rs := r3.at (by rw [v2, hcs]; omega) hv
       have b6 := hrows.mono q1.imm;rw [← er] at b6;have hln : (Ab U.V y).rows.length = n := by rw [er, r1]
       refine ⟨σ, .dat e _ _ _ _ (.slc e base.cb (base.co + off) n cap _ ks cur hk2 q2 hln hcap hnil ?_ (fun i hi => b6.2.1 i (by rw [hln]; exact hi)) (fun i j kd hi hj => b6.2.2 i j kd (by rw [hln]; exact hi) hj)), q3, q4⟩
       have := b6.1;rw [hln] at this;exact this
     ·exact same hx
    ·exact same hx
   ·exact same hx
  ·exact same hx
 ·exact same hx
omit hE in
theorem NV {kd : Kd} {a a' : AV} {h h' : Aa} (hx : Ka E kd a h = (a', h')) : h'.nx = h.nx := by
 unfold Ka at hx
 repeat' split at hx
 all_goals (cases hx; rfl)
theorem Ku : ∀ {ks : List Kd} {l l' : List AV} {vs : List Value} {ρ : Ren} {h h' : Aa}, HR ρ h.blk.get w → VL ρ l vs → II E ks l h = (l', h') →
  h'.nx = h.nx ∧ ∃ σ : Ren, VL σ l' vs ∧ HR σ h'.blk.get w ∧ Ext ρ σ h h' w w
 | [], l, l', vs, ρ, h, h', hr, hv, hx => by
  cases l <;> (simp only [II] at hx; cases hx; exact ⟨rfl, ρ, hv, hr, Ext.refl _ _ _⟩)
 | k :: ks, [], l', vs, ρ, h, h', hr, hv, hx => by
  simp only [II] at hx; cases hx; exact ⟨rfl, ρ, hv, hr, Ext.refl _ _ _⟩
 | k :: ks, a :: l, l', vs, ρ, h, h', hr, hv, hx => by
  obtain ⟨v, r, rfl, h1, h2⟩ := hv.cons_inv;simp only [II] at hx;generalize hf1 : Ka E k a h = p1 at hx;obtain ⟨a1, h3⟩ := p1;simp only at hx;generalize hf2 : II E ks l h3 = p2 at hx;obtain ⟨l1, h4⟩ := p2;simp only at hx;cases hx;have hn1 := NV hf1;obtain ⟨σ, q1, q2, q3⟩ := Kr hE hr h1 hf1;obtain ⟨hn2, τ, r1, r2, r3⟩ := Ku q2 (h2.mono q3.le) hf2;refine ⟨by omega, τ, VL.cons (q1.mono r3.le) r1, r2, q3.trans r3 (fun b hb hb2 => by omega)⟩
omit hE in
theorem Wo {kd : Kd} {a a' : AV} {h h' : Aa} (hx : Ka E kd a h = (a', h')) : h' = h ∨ ∃ b, h' = h.strike b := by
 unfold Ka at hx
 repeat' split at hx
 all_goals (cases hx; first | exact .inl rfl | exact .inr ⟨_, rfl⟩)
omit hE in
theorem Pq : ∀ {ks : List Kd} {l l' : List AV} {h h' : Aa}, II E ks l h = (l', h') → h'.nx = h.nx ∧ (∃ m, h'.log = m ++ h.log ∧ ∀ c, c ∉ m → h'.blk.get c = h.blk.get c) ∧ ∀ c, h'.blk.get c = none ∨ h'.blk.get c = h.blk.get c
 | [], l, l', h, h', hx => by
  cases l <;> (simp only [II] at hx; cases hx; exact ⟨rfl, ⟨[], rfl, fun _ _ => rfl⟩, fun _ => .inr rfl⟩)
 | k :: ks, [], l', h, h', hx => by
  simp only [II] at hx; cases hx; exact ⟨rfl, ⟨[], rfl, fun _ _ => rfl⟩, fun _ => .inr rfl⟩
 | k :: ks, a :: l, l', h, h', hx => by
  simp only [II] at hx;generalize hf1 : Ka E k a h = p1 at hx;obtain ⟨a1, h3⟩ := p1;simp only at hx;generalize hf2 : II E ks l h3 = p2 at hx;obtain ⟨l1, h4⟩ := p2;simp only at hx;cases hx;obtain ⟨q1, ⟨m, q2, q3⟩, q4⟩ := Pq hf2;rcases Wo hf1 with rfl | ⟨b, rfl⟩
  ·exact ⟨q1, ⟨m, q2, q3⟩, q4⟩
  ·have hget : ∀ c, (h.strike b).blk.get c = if b = c then none else h.blk.get c := fun c => by simp only [Aa.strike, T.get_del]
   refine ⟨q1, ⟨m ++ [b], by rw [q2]; simp [Aa.strike], fun c hc => ?_⟩, fun c => ?_⟩
   ·simp only [List.mem_append, List.mem_singleton, not_or] at hc;rw [q3 c hc.1, hget, if_neg (fun e => hc.2 e.symm)]
   ·rcases q4 c with r | r
    ·exact .inl r
    ·rw [r, hget];by_cases e : b = c
     ·rw [if_pos e]; exact .inl rfl
     ·rw [if_neg e]; exact .inr rfl
theorem JA {ρ : Ren} {h : Aa} {ks : List Kd} {b : Nat} (hr : HR ρ h.blk.get w) : (Ep E ks b h).nx = h.nx ∧ ∃ σ : Ren, HR σ (Ep E ks b h).blk.get w ∧ Ext ρ σ h (Ep E ks b h) w w := by
 have same : h.nx = h.nx ∧ ∃ σ : Ren, HR σ h.blk.get w ∧ Ext ρ σ h h w w := ⟨rfl, ρ, hr, Ext.refl _ _ _⟩
 unfold Ep;split
 ·rename_i n c hg;split
  ·rename_i l hl;split;rename_i l' h' hf;split
   ·rename_i m c' hg';split
    ·rename_i hc;obtain ⟨c1, c2⟩ := Av hc;have e1 := AG c1;have e2 := AG c2;subst e1;cases hb : ρ b with
     | none =>
      obtain ⟨s1, ⟨mm, s2, s3⟩, s4⟩ := Pq hf;have hr' : HR ρ h'.blk.get w := hr.restrict (fun c => s4 c)
      have hget : ∀ c, c ≠ b → (h'.put b (.cells m (.ofList l'))).blk.get c = h'.blk.get c := fun c hc => by
       simp only [Aa.put, T.get_set]; rw [if_neg (fun e => hc e.symm)]
      have ne : ∀ {c : Nat} {bs : Db}, ρ c = some bs → c ≠ b := fun hc e => by subst e; rw [hb] at hc; cases hc
      refine ⟨s1, ρ, ⟨hr'.lt, fun c bs x hc hx => ?_, fun c c' bs bs' hne hc hc' h1 h2 => ?_, hr'.imm, fun k arr c bs hk hc hl => ?_⟩, ⟨Ren.le_refl ρ, by show h.nx ≤ h'.nx; omega, fun _ _ e => .inl e, Hz.refl w, fun _ _ _ => rfl, ⟨b :: mm, by simp [Aa.put, s2], fun c hc _ => ?_⟩, fun c hc => ?_, fun _ _ e => .inl e⟩⟩
      ·rw [hget c (ne hc)] at hx;exact hr'.blk c bs x hc hx
      ·rw [hget c (ne hc)] at h1;rw [hget c' (ne hc')] at h2;exact hr'.apart c c' bs bs' hne hc hc' h1 h2
      ·rw [hget c (ne hc)] at hl;exact hr'.off k arr c bs hk hc hl
      ·simp only [List.mem_cons, not_or] at hc;rw [hget c hc.1];exact s3 c hc.2
      ·by_cases e : c = b
       ·subst e; exact .inl (by rw [hg]; exact Option.some_ne_none _)
       ·rw [hget c e] at hc;rcases s4 c with r | r
        ·rw [r] at hc; exact absurd rfl hc
        ·rw [r] at hc; exact .inl hc
     | some base =>
      obtain ⟨cur, et, fz, b1, b2, b3, b4, b5⟩ := hr.blk b base _ hb hg;obtain ⟨l1, l2⟩ := T.range_spec c _ _ _ hl
      have hvl : VL ρ l ((cur.toList.drop base.co).take m) := by
       refine ⟨by simp [l1]; omega, fun i a v ha hv => ?_⟩
       have hi : i < m := by have := (List.getElem?_eq_some_iff.1 ha).1; omega
       have := l2 i hi;rw [Nat.zero_add, ha] at this;obtain ⟨v', v1, v2⟩ := b5 i a hi this;rw [List.getElem?_take, if_pos hi, List.getElem?_drop, Array.getElem?_toList, v1] at hv;cases hv;exact v2
      obtain ⟨hn, σ, q1, q2, q3⟩ := Ku hE hr hvl hf;have hσ : σ b = some base := q3.le.m b base hb
      obtain ⟨r1, r2⟩ := q2.put hσ (by rw [hg']; exact Option.some_ne_none _) (.cells m (.ofList l')) w ⟨cur, et, fz, b1, b2, b3, b4, fun i a hi ha => by
       rw [T.get_ofList] at ha
       have hv : ((cur.toList.drop base.co).take m)[i]? = cur[base.co + i]? := by
        rw [List.getElem?_take, if_pos hi, List.getElem?_drop, Array.getElem?_toList]
       have hlt : base.co + i < cur.size := by omega
       have hc : cur[base.co + i]? = some cur[base.co + i] := by simp [hlt]
       exact ⟨_, hc, q1.2 i a _ ha (by rw [hv, hc])⟩⟩ rfl (fun _ _ => rfl) rfl rfl rfl
      exact ⟨hn, σ, r1, q3.trans r2 (fun c h1 h2 => by simp only [Aa.put] at h2; omega)⟩
    ·exact same
   ·exact same
  ·exact same
 ·exact same
theorem MM {ρ : Ren} {h : Aa} {e : TypeId} {b : Nat} (hr : HR ρ h.blk.get w) : (Hx E e b h).nx = h.nx ∧ ∃ σ : Ren, HR σ (Hx E e b h).blk.get w ∧ Ext ρ σ h (Hx E e b h) w w := by
 unfold Hx;split
 ·exact JA hE hr
 ·exact ⟨rfl, ρ, hr, Ext.refl _ _ _⟩
omit hE in
theorem Ub {t : TypeId} {x a : AV} {h h' : Aa} (hx : D0 E t x a h = some h') : h'.nx = h.nx := by
 unfold D0 Ob storeN at hx
 repeat' split at hx
 all_goals first | (cases hx; done) | (cases hx; rfl)
theorem Pv {ρ : Ren} {h h' : Aa} (hr : HR ρ h.blk.get w) {t : TypeId} {x a : AV} {xv v : Value} (hx : VR ρ x xv) (ha : VR ρ a v) (hl : L8 E t x a h = some h') :
  ∃ σ w', (Instr.storeAt t xv v).run E.P w = .ok () w' ∧ HR σ h'.blk.get w' ∧ Ext ρ σ h h' w w' := by
 have plain : D0 E t x a h = some h' → ∃ σ w', (Instr.storeAt t xv v).run E.P w = .ok () w' ∧ HR σ h'.blk.get w' ∧ Ext ρ σ h h' w w' := by
  intro hs;obtain ⟨w', q1, q2, q3⟩ := Jc hE hr hx ha hs;exact ⟨ρ, w', q1, q2, q3⟩
 have snx : ∀ {t : TypeId} {x a : AV} {h h' : Aa}, D0 E t x a h = some h' → h'.nx = h.nx := Ub
 unfold L8 at hl;split at hl
 ·split at hl
  ·split at hl
   ·split at hl
    ·split at hl
     ·rename_i l;split at hl;rename_i l1 h1 hf;cases ha with
      | agg _ l' e1 e2 =>
       obtain ⟨hn, σ, q1, q2, q3⟩ := Ku hE hr ⟨e1, e2⟩ hf;obtain ⟨w', r1, r2, r3⟩ := Jc hE q2 (hx.mono q3.le) (.agg l1 l' q1.1 q1.2) hl;have := snx hl;exact ⟨σ, w', r1, r2, q3.trans r3 (fun b hb hb2 => by omega)⟩
     ·split at hl;rename_i v1 h1 hf;obtain ⟨σ, q1, q2, q3⟩ := Kr hE hr ha hf;obtain ⟨w', r1, r2, r3⟩ := Jc hE q2 (hx.mono q3.le) q1 hl;have := snx hl;have := NV hf;exact ⟨σ, w', r1, r2, q3.trans r3 (fun b hb hb2 => by omega)⟩
    ·exact plain hl
   ·exact plain hl
  ·exact plain hl
 ·exact plain hl
theorem P5 {ρ : Ren} {h : Aa} {e : TypeId} {a : AV} (hr : HR ρ h.blk.get w) : (Gf E e a h).nx = h.nx ∧ ∃ σ : Ren, HR σ (Gf E e a h).blk.get w ∧ Ext ρ σ h (Gf E e a h) w w := by
 have same : h.nx = h.nx ∧ ∃ σ : Ren, HR σ h.blk.get w ∧ Ext ρ σ h h w w := ⟨rfl, ρ, hr, Ext.refl _ _ _⟩
 unfold Gf;split
 ·split
  ·split
   ·exact MM hE hr
   ·exact same
  ·exact same
 ·exact same
theorem NP {ρ : Ren} {h h' : Aa} (hr : HR ρ h.blk.get w) {t t' ty : TypeId} {s x a : AV} {sv xv : Value} (hs : VR ρ s sv) (hx : VR ρ x xv) (ha : Jq E t t' s x h = some (a, h')) (hf : Bg ρ h.nx h'.nx)
  (hA : ∀ a h', Io E t t' s x h = some (a, h') → Bg ρ h.nx h'.nx → A7 E ρ h h' w (Builtin.append_ #[t, t'] ty #[sv, xv]) a) :
  A7 E ρ h h' w (Builtin.append_ #[t, t'] ty #[sv, xv]) a := by
 unfold Jq at ha;split at ha
 ·rename_i hsy;split at ha
  ·rename_i e hd;obtain ⟨n1, σ, q1, q2⟩ := P5 (e := e) (a := s) hE hr;obtain ⟨n2, τ, r1, r2⟩ := P5 (e := e) (a := x) hE q1;have hle := q2.le.trans r2.le;have hfr : Bg τ (Gf E e x (Gf E e s h)).nx h'.nx := Ext.free r2 (Ext.free q2 hf);obtain ⟨υ, v, w', s1, s2, s3, s4⟩ := HL hE r1 (hs.mono hle) (hx.mono hle) ha hfr (fun a h'' hq hf2 => Lw hE r1 (hs.mono hle) (hx.mono hle) hq hf2)
   exact ⟨υ, v, w', s1, s2, s3, q2.trans (r2.trans s4 (Ext.free q2 hf)) hf⟩
  ·exact HL hE hr hs hx ha hf hA
 ·exact HL hE hr hs hx ha hf hA
end
end Go.AE
namespace Go.AE
variable [U : Unk]
theorem N6 {d : Option TypeDesc} (h : U3 d = true) : d = some (.int .u8) := by
 unfold U3 at h;split at h
 ·rfl
 ·cases h
theorem M7 {d : Option TypeDesc} (h : NK d = true) : d = some .string := by
 unfold NK at h;split at h
 ·rfl
 ·cases h
theorem Jd {d : Option (List Kd)} (h : LW d = true) : d = some [.int .u8] := by
 unfold LW at h;split at h
 ·rfl
 ·cases h
theorem XP {s : ByteArray} {n : Nat} (h : n < s.data.toList.length) : s[n]? = some s.data.toList[n] := by
 have hsz : n < s.size := by simpa using h
 rw [getElem?_pos s n hsz]; rfl
theorem Vb {l : List UInt8} {i : Nat} (hi : i < l.length) : ((l.map fun b => D.row [.int b.toNat]).getD i default) = .row [.int l[i].toNat] := by
 rw [List.getD_eq_getElem?_getD, List.getElem?_map, List.getElem?_eq_getElem hi]; rfl
theorem WS {t : ByteArray} {m i : Nat} (hi : i < t.data.toList.length) : (t.data.map (fun (b : UInt8) => Value.int .u8 b.toNat) ++ Array.replicate m (Value.int .u8 0)).getD i Go.undef = .int .u8 (t.data.toList[i].toNat : Nat) := by
 have hi2 : i < t.data.size := by rw [← Array.length_toList]; exact hi
 have : (t.data.map (fun (b : UInt8) => Value.int .u8 b.toNat) ++ Array.replicate m (Value.int .u8 0))[i]? = some (.int .u8 (t.data.toList[i].toNat : Nat)) := by
  rw [Array.getElem?_append_left (by simpa using hi2), Array.getElem?_map, Array.getElem?_eq_getElem hi2]
  simp
 rw [Array.getD_eq_getD_getElem?, this];rfl
theorem Xd {K : TypeId → Option (List Kd)} {M : Nat → Option (Array Value)} {cur : Array Value} {o : Nat} {rows : List D} (h1 : o + rows.length ≤ cur.size)
  (h : ∀ i, i < rows.length → DV K M (.int .u8) (cur.getD (o + i) Go.undef) ((rows.getD i default).cells.getD 0 default)) :
  ((cur.toList.drop o).take rows.length) = (rows.map fun r => (r.cells.getD 0 default).toInt).map (Value.int .u8) := by
 apply List.ext_getElem
 ·simp; omega
 ·intro i a b;have hi : i < rows.length := by simpa using b
  simp only [List.getElem_take, List.getElem_drop, List.getElem_map, Array.getElem_toList];have := h i hi;have e : cur.getD (o + i) Go.undef = cur[o + i]'(by omega) := by simp [Array.getD_eq_getD_getElem?, show o + i < cur.size by omega]
  rw [e] at this;have e2 : rows.getD i default = rows[i] := by simp [List.getD_eq_getElem?_getD, hi]
  rw [e2] at this;generalize cur[o + i]'(by omega) = v at this ⊢
  cases this with
  | int _ n _ _ q => rw [q]
theorem Qy {x : SE} : (AT U.V (.ofBytes x)).data.toList = ((Ab U.V x).rows.map fun r => (r.cells.getD 0 default).toInt).map fun n => UInt8.ofNat n.toNat := by
 show (((Ab U.V x).rows.map fun r => UInt8.ofNat (r.cells.getD 0 default).toInt.toNat).toArray).toList = _
 simp
theorem P8 (ns : List Int) {s : ByteArray} (h : s.data.toList = ns.map fun n => UInt8.ofNat n.toNat) : ns.foldl (fun r n => r.push (UInt8.ofNat n.toNat)) ByteArray.empty = s := by
 have := KU ns ByteArray.empty;have e : (ns.foldl (fun r n => r.push (UInt8.ofNat n.toNat)) ByteArray.empty).data.toList = s.data.toList := by rw [this, h]; simp
 cases s with
 | mk d =>
  generalize ns.foldl (fun r n => r.push (UInt8.ofNat n.toNat)) ByteArray.empty = t at e
  cases t with
  | mk d' => simp only [ByteArray.mk.injEq]; exact Array.toList_inj.1 e
theorem Gy {x : SE} (h : (Ab U.V x).rows = []) : AT U.V (.ofBytes x) = ByteArray.empty := by
 show ByteArray.mk (((Ab U.V x).rows.map fun r => UInt8.ofNat (r.cells.getD 0 default).toInt.toNat).toArray) = _
 rw [h];rfl
theorem Nv {P : Program} {w : World} {M : Nat → Option (Array Value)} {b o cap : Nat} {cur : Array Value} {e : TypeId} {fz : Nat × Nat} {y : SE} (hb : w.heap[b]? = some (.cells cur e fz)) (h1 : o + (Ab U.V y).rows.length ≤ cur.size)
  (h : ∀ i, i < (Ab U.V y).rows.length → DV U.K M (.int .u8) (cur.getD (o + i) Go.undef) (((Ab U.V y).rows.getD i default).cells.getD 0 default)) :
  (Conv.bytesToString (.slice (some ⟨b, o, none⟩) (Ab U.V y).rows.length cap)).run P w = .ok (.string (AT U.V (.ofBytes y))) w := by
 have q := AL P w b o (Ab U.V y).rows.length cur e fz hb h1;rw [Xd h1 h] at q;have r := run_bytesToString w ⟨b, o, none⟩ (Ab U.V y).rows.length cap ((Ab U.V y).rows.map fun r => (r.cells.getD 0 default).toInt) q
 rw [P8 _ Qy] at r;exact r
section
variable {E : Env} (hE : OK E) {ρ : Ren} {h : Aa} {w : World}
include hE
theorem TM {t : TypeId} {x i a : AV} {xv iv : Value} (hx : VR ρ x xv) (hi : VR ρ i iv) (hl : QL E t x i = some a) :
  ∃ v, (Instr.index t xv iv).run E.P w = .ok v w ∧ VR ρ a v := by
 unfold QL at hl;split at hl
 ·rename_i y;split at hl
  ·rename_i k ie hd hti;split at hl
   ·rename_i hc;cases hl;obtain ⟨r0, r1⟩ := LT hc;have hiv := CY hi hti;subst hiv;rw [DA] at r1;cases hx with
    | ss _ =>
     obtain ⟨n, hn⟩ : ∃ n : Nat, Ad U.V ie = n := ⟨(Ad U.V ie).toNat, by omega⟩
     rw [hn] at r0 r1 ⊢;have hlt : n < (AT U.V y).data.toList.length := by omega
     refine ⟨.int .u8 ((AT U.V y).data.toList[n].toNat : Nat), ?_, ?_⟩
     ·simp only [Instr.index, asIntOf, Sem.run_bind, Sem.run_pure, Result.andThen_ok, hE.run_und hd];rw [if_pos (by omega), Int.toNat_natCast, XP hlt]
      rfl
     ·have := C2 ρ .u8 (.strAt y ie)
      have e : Ad U.V (.strAt y ie) = ((AT U.V y).data.toList[n].toNat : Nat) := by
       show ((((Ab U.V y).toStr.data.toList[(Ab U.V ie).toInt.toNat]?).getD 0).toNat : Int) = _
       have e1 : (Ab U.V ie).toInt.toNat = n := by
        have : (Ab U.V ie).toInt = n := hn;omega
       have hlt' : n < (Ab U.V y).toStr.data.toList.length := hlt;rw [e1, List.getElem?_eq_getElem hlt'];rfl
      rw [e] at this;exact this
   ·cases hl
  ·cases hl
 ·exact T0 hE hx (IG hi) hl
theorem Wx (hr : HR ρ h.blk.get w) {s d : TypeId} {x a : AV} {xv : Value} {h' : Aa} (hx : VR ρ x xv) (ha : Wc E s d x h = some (a, h')) (hf : Bg ρ h.nx h'.nx) :
  A7 E ρ h h' w (convert s d xv) a := by
 unfold Wc at ha;split at ha
 ·rename_i y;split at ha
  ·rename_i e hd;split at ha
   ·rename_i hc;cases ha;obtain ⟨hc, c3⟩ := Av hc;obtain ⟨c1, c2⟩ := Av hc;have he := N6 c1;have hk := Jd c2;obtain ⟨sd, hs⟩ := Option.isSome_iff_exists.1 c3;have us := hE.run_und hs w;have ud := hE.run_und hd w;have ue := hE.run_und he w;cases hx with
    | ss _ =>
     generalize ht : AT U.V y = t;have hfree : ρ h.nx = none := hf h.nx (Nat.le_refl _) (by simp [Aa.new])
     generalize hcap : grownCap w t.size 0 e = cap;have hge : t.size ≤ cap := by rw [← hcap]; exact grownCap_ge w _ _ _
     generalize harr : (t.data.map (fun b => Value.int .u8 b.toNat) ++ Array.replicate (cap - t.size) (.int .u8 0)) = arr
     have hasz : arr.size = cap := by rw [← harr]; simp; omega
     have hr1 : HR ρ h.blk.get { w with drawn := w.drawn + 1 } := hr.same rfl
     have hk2 : U.K e = some [.int .u8] := by rw [hE.kd, ← hE.ke]; exact hk
     have er : (Ab U.V (.bytes y)).rows = t.data.toList.map fun b => .row [.int b.toNat] := by
      show ((Ab U.V y).toStr.data.toList.map _) = _;have : (Ab U.V y).toStr = t := ht;rw [this]
     have hsz : t.size = t.data.toList.length := by simp
     have hrows : Bo U.K ρ.imm [.int .u8] arr 0 (Ab U.V (.bytes y)).rows := by
      rw [er];refine ⟨by simp only [List.length_map, List.length_singleton]; omega, fun i hi => ?_, fun i j kd hi hj => ?_⟩
      ·have hi' : i < t.data.toList.length := by simpa using hi
       rw [Vb hi'];rfl
      ·have hi' : i < t.data.toList.length := by simpa using hi
       have hj0 : j = 0 := by
        cases j with
        | zero => rfl
        | succ j => simp at hj
       subst hj0;simp only [List.getElem?_cons_zero, Option.some.injEq] at hj;subst hj;rw [Vb hi'];show DV U.K ρ.imm (.int .u8) (arr.getD (0 + i * 1 + 0) Go.undef) (.int (t.data.toList[i].toNat : Nat));rw [show 0 + i * 1 + 0 = i by omega, ← harr, WS hi']
       have hb := t.data.toList[i].toNat_lt;exact .int .u8 _ _ (.inr ⟨by show (0 : Int) ≤ _; omega, by show _ ≤ (255 : Int); omega⟩) rfl
     obtain ⟨p1, p2⟩ := hr1.new hfree (.arr e (.bytes y)) (.cells arr e (arr.size, arr.size + 1)) arr.size ⟨_, _, e, _, hk2, rfl, rfl, .inr (Nat.le_refl _), hrows⟩ { w with drawn := w.drawn + 1, heap := w.heap.push (.cells arr e (arr.size, arr.size + 1)) } rfl rfl rfl rfl
     refine ⟨_, .slice (some ⟨w.heap.size, 0, none⟩) t.size cap, _, ?_, ?_, p1, p2.drawn rfl rfl rfl rfl⟩
     ·have hch : (choose (.appendCap t.size 0 e)).run E.P w = .ok cap { w with drawn := w.drawn + 1 } := by rw [← hcap]; simp [Question.forced, grownCap]
      have hconv : (convert s d (.string t)).run E.P w = (Conv.stringToBytes e t).run E.P w := by
       cases sd <;> simp [convert, us, ud, ue]
      rw [hconv];simp only [Conv.stringToBytes, Sem.run_bind, hch, Result.andThen_ok, newRow, run_newObj, Sem.run_pure, harr];simp only [markStringish, Sem.run_bind, run_shape, Result.andThen_ok];have hsh : ({ w with drawn := w.drawn + 1, heap := w.heap.push (.cells arr e) } : World).shape? w.heap.size = some (e, arr.size) := by simp [World.shape?]
      rw [hsh];simp only [run_freeze, Result.andThen_ok]
      have hfz : ({ w with drawn := w.drawn + 1, heap := w.heap.push (.cells arr e) } : World).freeze ⟨w.heap.size, arr.size, none⟩ 1 = { w with drawn := w.drawn + 1, heap := w.heap.push (.cells arr e (arr.size, arr.size + 1)) } := by
       simp [World.freeze, JW]
      rw [hfz]
     ·have hlen : Ad U.V (.lenL (.bytes y)) = (t.size : Nat) := by rw [Ao, er, hsz]; simp
      have := VR.asl (ρ := ρ.upd h.nx ⟨w.heap.size, 0, arr.size⟩) h.nx 1 (.lenL (.bytes y)) (.bc false) cap ⟨w.heap.size, 0, arr.size⟩ (Ren.upd_same _ _ _) (by rw [hlen]; exact Int.natCast_nonneg _) (by rw [hlen]; simpa using hge) (by show 0 + cap * 1 ≤ arr.size; rw [hasz]; omega) rfl
      rw [hlen] at this;simpa using this
   ·cases ha
  ·exact PH hE hr hx ha hf
 ·rename_i e' y;split at ha
  ·rename_i e hs;split at ha
   ·rename_i hc;cases ha;obtain ⟨hc, c4⟩ := Av hc;obtain ⟨hc, c3⟩ := Av hc;obtain ⟨c1, c2⟩ := Av hc;have h0 := AG c1;subst h0;have he := N6 c2;have hk := Jd c3;have hd := M7 c4;have hk2 : U.K e = some [.int .u8] := by rw [hE.kd, ← hE.ke]; exact hk
    cases hx with
    | dat _ _ ad n cap hdv =>
     refine AB hr ⟨_, ?_, .ss (.ofBytes y)⟩;have us := hE.run_und hs w;have ud := hE.run_und hd w;have ue := hE.run_und he w;cases hdv with
     | nil _ _ g1 g2 =>
      rw [Gy g2];simp [convert, us, ud, ue, Conv.bytesToString]
     | empty _ a1 _ _ g1 g2 =>
      rw [run_convert_bytes_string w s d e _ _ _ (hE.und hs) (hE.und he) (hE.und hd), Gy g2];exact run_bytesToString (P := E.P) w a1 0 cap [] (by simp [Go.loadCells, loadCellsFrom])
     | slc _ b o _ _ _ ks arr hk' ha' hn hc' g1 hin hrow hv =>
      rw [hk2] at hk';cases hk';obtain ⟨e1, fz, hb⟩ := hr.imm b arr ha';rw [run_convert_bytes_string w s d e _ _ _ (hE.und hs) (hE.und he) (hE.und hd), ← hn];refine Nv (M := ρ.imm) hb (by rw [hn]; simpa using hin) (fun i hi => ?_)
      have := hv i 0 _ (by omega) rfl
      simpa using this
   ·cases ha
  ·cases ha
 ·rename_i b es n nl;split at ha
  ·rename_i e e' y hs hg;split at ha
   ·rename_i hc;cases ha;obtain ⟨hc, c5⟩ := Av hc;obtain ⟨hc, c4⟩ := Av hc;obtain ⟨hc, c3⟩ := Av hc;obtain ⟨c1, c2⟩ := Av hc;have h0 := AG c1;subst h0;have he := N6 c2;have hk := Jd c3;have hd := M7 c4;have hlen := FA c5;have hk2 : U.K e = some [.int .u8] := by rw [hE.kd, ← hE.ke]; exact hk
    have us := hE.run_und hs w;have ud := hE.run_und hd w;have ue := hE.run_und he w;cases hx with
    | asl _ _ _ _ cap base hb q0 qc qz qn =>
     refine AB hr ⟨_, ?_, .ss (.ofBytes y)⟩;obtain ⟨ks, cur, et, fz, r1, r2, r3, r4, r5⟩ := hr.blk b base _ hb hg;rw [hk2] at r1;cases r1;rw [run_convert_bytes_string w s d e _ _ _ (hE.und hs) (hE.und he) (hE.und hd), hlen, Ao, Int.toNat_natCast];refine Nv (M := ρ.imm) r2 (by simpa using r5.1) (fun i hi => ?_)
     have := r5.2.2 i 0 _ hi rfl;simpa using this
    | aslEnd _ _ _ _ ad q0 qn =>
     refine AB hr ⟨_, ?_, .ss (.ofBytes y)⟩;rw [hlen, Ao] at q0;have g2 : (Ab U.V y).rows = [] := List.eq_nil_of_length_eq_zero (by omega)
     rw [Gy g2];cases ad with
     | none => simp [convert, us, ud, ue, Conv.bytesToString]
     | some a1 =>
      rw [run_convert_bytes_string w s d e _ _ _ (hE.und hs) (hE.und he) (hE.und hd)];exact run_bytesToString (P := E.P) w a1 0 0 [] (by simp [Go.loadCells, loadCellsFrom])
   ·cases ha
  ·cases ha
 ·exact PH hE hr hx ha hf
end
end Go.AE
namespace Go.AE
variable [U : Unk]
theorem IX {l u n : SE} (h : inB l u n = true) : 0 ≤ Ad U.V l ∧ Ad U.V l ≤ Ad U.V u ∧ Ad U.V u ≤ Ad U.V n := by
 unfold inB at h;obtain ⟨h12, h3⟩ := Av h;obtain ⟨h1, h2⟩ := Av h12;have a := It h1;have b := It h2;have c := It h3;rw [Ay, decide_eq_false_iff_not] at a b c;have z : Ad U.V (.c 0) = 0 := rfl;rw [z] at a;omega
theorem EK {ρ : Ren} {d e : SE} {o : Option AV} {o' : Option Value} (h1 : ∀ a, o = some a → ∃ v, o' = some v ∧ VR ρ a v) (h0 : o = none → o' = none) (h : Hd d o = some e) :
  (o' = none ∧ e = d) ∨ ∃ k, o' = some (.int k (Ad U.V e)) := by
 cases o with
 | none => cases h; exact .inl ⟨h0 rfl, rfl⟩
 | some a =>
  obtain ⟨v, hv, hr⟩ := h1 a rfl;simp only [Hd] at h;split at h
  ·rename_i k e' ht;cases h;exact .inr ⟨k, by rw [hv, CY hr ht]⟩
  ·cases h
theorem aL {ρ : Ren} {o : Option AV} {o' : Option Value} (h1 : ∀ a, o = some a → ∃ v, o' = some v ∧ VR ρ a v) : ∀ a, o.map L7 = some a → ∃ v, o' = some v ∧ VR ρ a v := by
 intro a ha;cases o with
 | none => cases ha
 | some b =>
  simp only [Option.map_some, Option.some.injEq] at ha;subst ha;obtain ⟨v, q1, q2⟩ := h1 b rfl;exact ⟨v, q1, IG q2⟩
omit U in
theorem Vq [Facts] {o : Option AV} {o' : Option Value} (h0 : o = none → o' = none) : o.map L7 = none → o' = none := by
 intro h;cases o with
 | none => exact h0 rfl
 | some b => cases h
theorem I8 {P : Program} {w : World} {kd : IntKind} {x : Int} {y : Nat} {code : BoundsCode} (h0 : 0 ≤ x) (h1 : x ≤ y) : (Instr.sliceBound (.int kd x) y code).run P w = .ok x.toNat w := by
 simp [Instr.sliceBound, asIntOf, h0, h1]
theorem Hc {P : Program} {w : World} {b : Bool} {len cap : Nat} {l u dl du : SE} {lo' hi' : Option Value} (hl : (lo' = none ∧ l = dl) ∨ ∃ k, lo' = some (.int k (Ad U.V l))) (hu : (hi' = none ∧ u = du) ∨ ∃ k, hi' = some (.int k (Ad U.V u)))
  (hdl : Ad U.V dl = 0) (hdu : Ad U.V du = len) (h0 : 0 ≤ Ad U.V l) (h1 : Ad U.V l ≤ Ad U.V u) (h2 : Ad U.V u ≤ len) (hc : len ≤ cap) :
  (Instr.sliceBounds b len cap lo' hi' none).run P w = .ok ((Ad U.V l).toNat, (Ad U.V u).toNat, cap) w := by
 rcases hu with ⟨a, c⟩ | ⟨k, a⟩
 ·subst a; subst c;rcases hl with ⟨d, e⟩ | ⟨k, d⟩
  ·subst d; subst e;simp [Instr.sliceBounds, hdl, hdu]
  ·subst d;have := I8 (P := P) (w := w) (kd := k) (code := .sliceB) h0 (show Ad U.V l ≤ (len : Int) by omega)
   simp [Instr.sliceBounds, hdu, this]
 ·subst a;have hs : ∀ code, (Instr.sliceBound (.int k (Ad U.V u)) cap code).run P w = .ok (Ad U.V u).toNat w := fun code => I8 (by omega) (by omega)
  rcases hl with ⟨d, e⟩ | ⟨k', d⟩
  ·subst d; subst e;simp [Instr.sliceBounds, hdl, hs]
  ·subst d;have := I8 (P := P) (w := w) (kd := k') (code := .sliceB) h0 (show Ad U.V l ≤ ((Ad U.V u).toNat : Int) by omega)
   simp [Instr.sliceBounds, hs, this]
theorem Eo {y l u : SE} : (Ab U.V (.sub y l u)).rows = ((Ab U.V y).rows.drop (Ad U.V l).toNat).take ((Ad U.V u).toNat - (Ad U.V l).toNat) := rfl
theorem LJ {rows : List D} {l n i : Nat} (hi : i < n) : ((rows.drop l).take n).getD i default = rows.getD (l + i) default := by
 rw [List.getD_eq_getElem?_getD, List.getD_eq_getElem?_getD, List.getElem?_take_of_lt hi, List.getElem?_drop]
theorem HR.swap {ρ : Ren} {h : Aa} {w : World} (hr : HR ρ h.blk.get w) {r : Nat} (hl : h.blk.get r ≠ none) (x : Aq) (hx : ∀ base, ρ r = some base → BR ρ x base w.heap[base.cb]?) :
  HR ρ (h.put r x).blk.get w ∧ Ext ρ ρ h (h.put r x) w w := by
 have live : ∀ b, (h.put r x).blk.get b ≠ none → h.blk.get b ≠ none := by
  intro b h1;simp only [Aa.put, T.get_set] at h1;by_cases e : r = b
  ·subst e; exact hl
  ·rw [if_neg e] at h1; exact h1
 refine ⟨⟨hr.lt, ?_, fun b b' c c' hne hc hc' h1 h2 => hr.apart b b' c c' hne hc hc' (live b h1) (live b' h2), hr.imm, fun k arr b c hk hc h1 => hr.off k arr b c hk hc (live b h1)⟩,
  ⟨Ren.le_refl ρ, Nat.le_refl _, fun _ _ e => .inl e, Hz.refl w, fun _ _ _ => rfl, ⟨[r], rfl, ?_⟩, fun b h1 => .inl (live b h1), fun _ _ e => .inl e⟩⟩
 ·intro b c y hc hy;simp only [Aa.put, T.get_set] at hy;by_cases e : r = b
  ·subst e;rw [if_pos rfl] at hy;cases hy;exact hx c hc
  ·rw [if_neg e] at hy;exact hr.blk b c y hc hy
 ·intro b hbn _;simp only [Aa.put, T.get_set];rw [if_neg (fun e => hbn (by simp [e]))]
section
variable {E : Env} (hE : OK E) {ρ : Ren} {h : Aa} {w : World}
include hE
theorem MY (hr : HR ρ h.blk.get w) {t : TypeId} {x a : AV} {xv : Value} {lo hi : Option AV} {lo' hi' : Option Value} {h' : Aa} (hx : VR ρ x xv)
  (hlo : ∀ a, lo = some a → ∃ v, lo' = some v ∧ VR ρ a v) (hlo0 : lo = none → lo' = none)
  (hhi : ∀ a, hi = some a → ∃ v, hi' = some v ∧ VR ρ a v) (hhi0 : hi = none → hi' = none)
  (hl : N9 E t x lo hi h = some (a, h')) : h' = h ∧ ∃ v, (Instr.sliceAt t xv lo' hi' none).run E.P w = .ok v w ∧ VR ρ a v := by
 unfold N9 at hl;split at hl
 ·rename_i e' y;split at hl
  ·rename_i e l u hd ho1 ho2;split at hl
   ·rename_i ks hk;split at hl
    ·rename_i hc;cases hl;refine ⟨rfl, ?_⟩;obtain ⟨c12, c3⟩ := Av hc;obtain ⟨c1, c2⟩ := Av c12;have h0 := AG c1;subst h0;obtain ⟨b0, b1, b2⟩ := IX c3;have hk2 : U.K e = some ks := by rw [hE.kd, ← hE.ke]; exact hk
     have p1 := EK hlo hlo0 ho1;have p2 := EK hhi hhi0 ho2;rw [Ao] at b2;cases hx with
     | dat _ _ ad n cap hdv =>
      have hn : (Ab U.V y).rows.length = n ∧ n ≤ cap := by
       cases hdv with
       | nil _ _ g1 g2 => rw [g2]; exact ⟨rfl, Nat.le_refl _⟩
       | empty _ _ _ _ g1 g2 => rw [g2]; exact ⟨rfl, Nat.zero_le _⟩
       | slc _ _ _ _ _ _ _ _ _ _ q1 q2 => exact ⟨q1, q2⟩
      obtain ⟨hn, hc⟩ := hn;have q := Hc (P := E.P) (w := w) (b := true) (cap := cap) p1 p2 rfl (by rw [Ao, hn]) b0 b1 (by rw [← hn]; exact b2) hc
      have hrun : (Instr.sliceAt t (.slice ad n cap) lo' hi' none).run E.P w = .ok (.slice (if cap = (Ad U.V l).toNat then ad else ad.map (·.add ((Ad U.V l).toNat * ks.length))) ((Ad U.V u).toNat - (Ad U.V l).toNat) (cap - (Ad U.V l).toNat)) w := by
       simp [Instr.sliceAt, Instr.slice, hE.run_und hd, q, hE.run_szIs c2]
      refine ⟨_, hrun, ?_⟩;refine .dat _ _ _ _ _ ?_;generalize hL : (Ad U.V l).toNat = L at *;generalize hH : (Ad U.V u).toNat = H at *;have hLH : L ≤ H := by omega
      have hHn : H ≤ n := by omega
      have hrl : (Ab U.V (.sub y l u)).rows.length = H - L := by
       rw [Eo, hL, hH]; simp; omega
      cases hdv with
      | nil _ _ g1 g2 =>
       have z : L = 0 ∧ H = 0 := by omega
       obtain ⟨rfl, rfl⟩ := z;simp only [Nat.sub_self, if_true];exact .nil _ _ g1 (List.eq_nil_of_length_eq_zero hrl)
      | empty _ a1 _ _ g1 g2 =>
       have z : L = 0 ∧ H = 0 := by omega
       obtain ⟨rfl, rfl⟩ := z;have hnil := List.eq_nil_of_length_eq_zero hrl;split
       ·exact .empty _ _ _ _ g1 hnil
       ·exact .empty _ _ _ _ g1 hnil
      | slc _ b o _ _ _ ks' arr hk' ha' hn' hc' g1 hin hrow hv =>
       rw [hk2] at hk';cases hk';by_cases hcl : cap = L
       ·rw [if_pos hcl];have z : H - L = 0 := by omega
        rw [z] at hrl ⊢;exact .empty _ _ _ _ g1 (List.eq_nil_of_length_eq_zero hrl)
       ·rw [if_neg hcl];simp only [Option.map_some, Cl]
        have key : ∀ i, i < H - L → (Ab U.V (.sub y l u)).rows.getD i default = (Ab U.V y).rows.getD (L + i) default := by
         intro i hi;rw [Eo, hL, hH, LJ hi]
        refine .slc _ _ _ _ _ _ ks arr hk2 ha' hrl (by omega) g1 ?_ ?_ ?_
        ·have e1 : L * ks.length + (H - L) * ks.length = H * ks.length := by rw [← Nat.add_mul]; congr 1; omega
         have e2 : H * ks.length ≤ n * ks.length := Nat.mul_le_mul_right _ hHn;omega
        ·intro i hi;rw [key i hi];exact hrow _ (by omega)
        ·intro i j kd hi hj;rw [key i hi];have := hv (L + i) j kd (by omega) hj
         rw [show o + L * ks.length + i * ks.length + j = o + (L + i) * ks.length + j by rw [Nat.add_mul]; omega]
         exact this
    ·cases hl
   ·cases hl
  ·cases hl
 ·cases hl
theorem Nc (hr : HR ρ h.blk.get w) {t e : TypeId} {b es : Nat} {n nl y l u du : SE} {xv : Value} {lo' hi' : Option Value} (hd : E.desc t = some (.slice e)) (c2 : E.szIs e es = true) (hb : h.blk.get b = some (.arr e y)) (hx : VR ρ (.asl b es n nl) xv)
  (p1 : (lo' = none ∧ l = .c 0) ∨ ∃ k, lo' = some (.int k (Ad U.V l))) (p2 : (hi' = none ∧ u = du) ∨ ∃ k, hi' = some (.int k (Ad U.V u))) (hdu : Ad U.V du = Ad U.V n) (hl0 : Ad U.V l = 0) (b1 : 0 ≤ Ad U.V u) (bn : Ad U.V u ≤ Ad U.V n) (b2 : Ad U.V u ≤ Ad U.V (.lenL y)) :
  A7 E ρ h (h.put b (.arr e (.sub y (.c 0) u))) w (Instr.sliceAt t xv lo' hi' none) (.asl b es (.lenL (.sub y (.c 0) u)) nl) := by
 have hu : Ad U.V (.lenL (.sub y (.c 0) u)) = Ad U.V u := by
  rw [Ao, Eo];rw [Ao] at b2;have : Ad U.V (.c 0) = 0 := rfl;rw [this];simp;omega
 have hblk : ∀ base, ρ b = some base → BR ρ (.arr e (.sub y (.c 0) u)) base w.heap[base.cb]? := by
  intro base hρ;obtain ⟨ks', cur, et, fz, b1', b2', b3', b4', b5'⟩ := hr.blk b base _ hρ hb;refine ⟨ks', cur, et, fz, b1', b2', b3', b4', ?_⟩
  have hlen : (Ab U.V (.sub y (.c 0) u)).rows.length ≤ (Ab U.V y).rows.length := by
   rw [Eo]; simp; omega
  have key : ∀ i, i < (Ab U.V (.sub y (.c 0) u)).rows.length → (Ab U.V (.sub y (.c 0) u)).rows.getD i default = (Ab U.V y).rows.getD i default := by
   intro i hi;rw [Eo] at hi ⊢;have : Ad U.V (.c 0) = 0 := rfl;rw [this] at hi ⊢;rw [LJ (by simp at hi; omega)]
   congr 1
   simp
  refine ⟨?_, ?_, ?_⟩
  ·have := b5'.1;have := Nat.mul_le_mul_right ks'.length hlen;omega
  ·intro i hi;rw [key i hi];exact b5'.2.1 i (by omega)
  ·intro i j kd hi hj;rw [key i hi];exact b5'.2.2 i j kd (by omega) hj
 obtain ⟨r1, r2⟩ := hr.swap (show h.blk.get b ≠ none by rw [hb]; exact Option.some_ne_none _) _ hblk
 cases hx with
 | asl _ _ _ _ cap base hρ q0 qc qz qn =>
  have q := Hc (P := E.P) (w := w) (b := true) (len := (Ad U.V n).toNat) (cap := cap) p1 p2 rfl (by omega) (by omega) (by omega) (by omega) qc
  rw [hl0] at q
  have hrun : (Instr.sliceAt t (.slice (some ⟨base.cb, base.co, none⟩) (Ad U.V n).toNat cap) lo' hi' none).run E.P w = .ok (.slice (some ⟨base.cb, base.co, none⟩) (Ad U.V u).toNat cap) w := by
   simp [Instr.sliceAt, Instr.slice, hE.run_und hd, q, hE.run_szIs c2, Cl]
  refine ⟨ρ, _, w, hrun, ?_, r1, r2⟩;have := VR.asl (ρ := ρ) b es (.lenL (.sub y (.c 0) u)) nl cap base hρ (by rw [hu]; exact b1) (by rw [hu]; omega) qz qn
  rw [hu] at this;exact this
 | aslEnd _ _ _ _ ad q0 qn =>
  have hu0 : Ad U.V u = 0 := by omega
  have q := Hc (P := E.P) (w := w) (b := true) (len := 0) (cap := 0) p1 p2 rfl (by rw [hdu, q0]; rfl) (by omega) (by omega) (by rw [hu0]; exact Int.le_refl _) (Nat.le_refl _)
  rw [hl0, hu0] at q
  have hrun : (Instr.sliceAt t (.slice ad 0 0) lo' hi' none).run E.P w = .ok (.slice ad 0 0) w := by
   simp [Instr.sliceAt, Instr.slice, hE.run_und hd, q, hE.run_szIs c2]
  exact ⟨ρ, _, w, hrun, .aslEnd _ _ _ _ _ (by rw [hu]; exact hu0) qn, r1, r2⟩
theorem T4 (hr : HR ρ h.blk.get w) {t : TypeId} {x a : AV} {xv : Value} {lo hi mx : Option AV} {lo' hi' mx' : Option Value} {h' : Aa} (hx : VR ρ x xv)
  (hlo : ∀ a, lo = some a → ∃ v, lo' = some v ∧ VR ρ a v) (hlo0 : lo = none → lo' = none)
  (hhi : ∀ a, hi = some a → ∃ v, hi' = some v ∧ VR ρ a v) (hhi0 : hi = none → hi' = none)
  (hmx : ∀ a, mx = some a → ∃ v, mx' = some v ∧ VR ρ a v) (hmx0 : mx = none → mx' = none)
  (hmh : mx ≠ none → hi ≠ none)
  (hl : sliceB E t x lo hi mx h = some (a, h')) : A7 E ρ h h' w (Instr.sliceAt t xv lo' hi' mx') a := by
 unfold sliceB at hl;split at hl
 ·have e0 := hmx0 rfl;subst e0;obtain ⟨rfl, q⟩ := MY hE hr hx hlo hlo0 hhi hhi0 hl;exact AB hr q
 ·rename_i y;have e0 := hmx0 rfl;subst e0;split at hl
  ·rename_i l u hd ho1 ho2;split at hl
   ·rename_i hc;cases hl;obtain ⟨b0, b1, b2⟩ := IX hc;have p1 := EK hlo hlo0 ho1;have p2 := EK hhi hhi0 ho2;cases hx with
    | ss _ =>
     refine AB hr ⟨_, ?_, .ss (.strSub y l u)⟩;rw [DA] at b2;have hsz : (AT U.V y).size = (AT U.V y).data.toList.length := by simp
     have q := Hc (P := E.P) (w := w) (b := false) (len := (AT U.V y).size) (cap := (AT U.V y).size) p1 p2 rfl (by rw [DA, hsz]) b0 b1 (by rw [hsz]; exact b2) (Nat.le_refl _)
     have e : AT U.V (.strSub y l u) = (AT U.V y).extract (Ad U.V l).toNat (Ad U.V u).toNat := rfl;rw [e];simp [Instr.sliceAt, Instr.slice, hE.run_und hd, q]
   ·cases hl
  ·cases hl
 ·rename_i b es n nl;have e0 := hmx0 rfl;subst e0;split at hl
  ·rename_i e e' y hd hb;split at hl
   ·rename_i hc;obtain ⟨c12, c3⟩ := Av hc;obtain ⟨c1, c2⟩ := Av c12;have h0 := AG c1;subst h0;have hfl := FA c3;split at hl
    ·rename_i l u ho1 ho2;split at hl
     ·rename_i hz;split at hl
      ·rename_i hi2;cases hl;obtain ⟨b0, b1, b2⟩ := IX hi2;rw [BN] at b0 b1
       have hl0 : Ad U.V l = 0 := by
        cases l <;> simp only [XE] at hz <;> first | cases hz | skip
        simpa [BN] using hz
       exact Nc hE hr hd c2 hb hx (EK hlo hlo0 ho1) (EK hhi hhi0 ho2) hfl.symm hl0 b1 (by rw [hfl]; exact b2) b2
      ·cases hl
     ·split at hl;rename_i x' h1 hf;obtain ⟨σ, g1, g2, g3⟩ := Kr hE hr hx hf;obtain ⟨rfl, v, q1, q2⟩ := MY hE g2 g1 (fun a ha => let ⟨v, p, q⟩ := hlo a ha; ⟨v, p, q.mono g3.le⟩) hlo0 (fun a ha => let ⟨v, p, q⟩ := hhi a ha; ⟨v, p, q.mono g3.le⟩) hhi0 hl
      exact ⟨σ, v, w, q1, q2, g2, g3⟩
    ·cases hl
   ·split at hl
    ·rename_i l hv u ho1 ho2;split at hl
     ·rename_i hc;cases hl;obtain ⟨c1, hc⟩ := Av hc;obtain ⟨c2, hc⟩ := Av hc;obtain ⟨hz, hc⟩ := Av hc;obtain ⟨c3, c4⟩ := Av hc;have h0 := AG c1;subst h0;obtain ⟨b0, b1, b2⟩ := IX c3;obtain ⟨_, _, b3⟩ := IX c4;rw [BN] at b0 b1
      have hl0 : Ad U.V l = 0 := by
       cases l <;> simp only [XE] at hz <;> first | cases hz | skip
       simpa [BN] using hz
      exact Nc hE hr hd c2 hb hx (EK hlo hlo0 ho1) (EK hhi hhi0 ho2) rfl hl0 b1 b2 b3
     ·cases hl
    ·cases hl
  ·cases hl
 ·split at hl
  ·rename_i a' hs;cases hl
   exact AB hr (TO hE hr hx (aL hlo) (Vq hlo0) (aL hhi) (Vq hhi0) (aL hmx) (Vq hmx0) (fun q => by cases hi with
    | none => exact absurd rfl (hmh (fun e => q (by rw [e]; rfl)))
    | some a => simp) hs)
  ·cases hl
end
end Go.AE
namespace Go.AE
variable [U : Unk]
theorem G3 {ρ : Ren} {x : AV} {xv : Value} {e : SE} (hx : VR ρ x xv) (h : OU x = some e) : xv = .string (AT U.V e) := by
 cases hx <;> simp only [OU] at h <;> first | (cases h; done) | skip
 ·rename_i s;cases h
  have e1 : AT U.V (.strc s.data.toList.length (AH s.data.toList)) = s := by
   show (⟨(Da _ _).toArray⟩ : ByteArray) = s;rw [Eh (U := U)]
  rw [e1]
 ·cases h; rfl
theorem HV {ρ : Ren} {x : AV} {xv : Value} {e : SE} (hx : VR ρ x xv) (h : LM x = some e) : xv = .bool (Ah U.V e) := by
 cases hx
 case bool b => simp only [LM, Option.some.injEq] at h; subst h; rfl
 case sb p e' =>
  cases p with
  | true =>
   simp only [LM, Option.some.injEq] at h;subst h;have : Ah U.V (.and e' (.bc true)) = (Ah U.V e' && true) := rfl;rw [this];cases Ah U.V e' <;> rfl
  | false =>
   simp only [LM, Option.some.injEq] at h;subst h;have : Ah U.V (.neg e') = (!Ah U.V e') := rfl;rw [this];cases Ah U.V e' <;> rfl
 all_goals (simp only [LM] at h; cases h)
theorem SA (a b : SE) : Ah U.V (Xy a b) = (Ah U.V a && Ah U.V b) := by
 unfold Xy;split
 ·show Ah U.V a = (Ah U.V a && true);rw [Bool.and_true]
 ·rfl
theorem RQ (a b : SE) : Ah U.V (aM a b) = (Ad U.V a == Ad U.V b) := by
 unfold aM;split <;> rfl
theorem SW (a b : SE) : Ah U.V (aF a b) = (Ah U.V a == Ah U.V b) := by
 show (!((!(Ah U.V a && Ah U.V b)) && (!((!Ah U.V a) && (!Ah U.V b))))) = _;cases Ah U.V a <;> cases Ah U.V b <;> rfl
section
variable {E : Env} (hE : OK E) {ρ : Ren} {w : World}
include hE
theorem H8 {d : Nat} (ih : ∀ (t : TypeId) (x y : AV) (r : SE) (xv yv : Value), HA E d t x y = some r → VR ρ x xv → VR ρ y yv → (Op.equalIn d t xv yv).run E.P w = .ok (Ah U.V r) w)
  {xs ys : List AV} {xs' ys' : List Value} (hx : VL ρ xs xs') (hy : VL ρ ys ys') : ∀ {fs : List Field} {r : SE}, Fk E (HA E d) xs ys fs = some r →
  (Op.eqFields d xs'.toArray ys'.toArray fs).run E.P w = .ok (Ah U.V r) w
 | [], r, h => by simp only [Fk, Option.some.injEq] at h; subst h; simp only [Op.eqFields, Sem.run_pure]; rfl
 | f :: fs, r, h => by
  simp only [Fk] at h;split at h
  ·cases h
  ·rename_i hn;have hne : f.name ≠ "_" := by simpa using hn
   split at h
   ·rename_i a b h1 h2;split at h
    ·rename_i e e' h3 h4;cases h;obtain ⟨av, q1, q2⟩ := hE.run_part h1 hx w;obtain ⟨bv, q3, q4⟩ := hE.run_part h2 hy w;have q5 := ih _ _ _ _ _ _ h3 q2 q4;have q6 := H8 ih hx hy h4;simp only [Op.eqFields, ne_eq, hne, not_false_eq_true, if_true, Sem.run_bind, q1, q3, q5, Result.andThen_ok, SA];cases Ah U.V e with
     | true => simp only [Bool.not_true, Bool.false_eq_true, if_false, Bool.true_and]; exact q6
     | false => simp
    ·cases h
   ·cases h
theorem JP {d : Nat} (ih : ∀ (t : TypeId) (x y : AV) (r : SE) (xv yv : Value), HA E d t x y = some r → VR ρ x xv → VR ρ y yv → (Op.equalIn d t xv yv).run E.P w = .ok (Ah U.V r) w)
  {xs ys : List AV} {xs' ys' : List Value} (hx : VL ρ xs xs') (hy : VL ρ ys ys') {e : TypeId} {n : Nat} : ∀ {k i : Nat} {r : SE}, Gn E (HA E d) e n xs ys k i = some r →
  (Op.eqItems d e n xs'.toArray ys'.toArray (List.range' i k)).run E.P w = .ok (Ah U.V r) w
 | 0, i, r, h => by simp only [Gn, Option.some.injEq] at h; subst h; simp only [List.range'_zero, Op.eqItems, Sem.run_pure]; rfl
 | k + 1, i, r, h => by
  simp only [Gn] at h;split at h
  ·rename_i a b h1 h2;split at h
   ·rename_i x y h3 h4;cases h;obtain ⟨av, q1, q2⟩ := hE.run_part h1 hx w;obtain ⟨bv, q3, q4⟩ := hE.run_part h2 hy w;have q5 := ih _ _ _ _ _ _ h3 q2 q4;have q6 := JP ih hx hy h4;simp only [List.range'_succ, Op.eqItems, Sem.run_bind, q1, q3, q5, Result.andThen_ok, SA];cases Ah U.V x with
    | true => simp only [Bool.not_true, Bool.false_eq_true, if_false, Bool.true_and]; exact q6
    | false => simp
   ·cases h
  ·cases h
theorem Oi : ∀ (d : Nat) (t : TypeId) (x y : AV) (r : SE) (xv yv : Value), HA E d t x y = some r → VR ρ x xv → VR ρ y yv → (Op.equalIn d t xv yv).run E.P w = .ok (Ah U.V r) w := by
 intro d
 induction d with
 | zero => intro t x y r xv yv h; simp [HA] at h
 | succ d ih =>
  intro t x y r xv yv h hx hy;simp only [HA] at h;split at h
  ·rename_i hd;have hu := hE.run_und hd w;split at h
   ·rename_i a b ha hb;cases h;rw [HV hx ha, HV hy hb, SW];simp [Op.equalIn, hu]
   ·cases h
  ·rename_i k0 hd;have hu := hE.run_und hd w;split at h
   ·rename_i k a k' b ha hb;split at h
    ·rename_i hk;cases h;have hk : k = k' := by simpa using hk
     subst hk;rw [CY hx ha, CY hy hb, RQ];simp [Op.equalIn, hu]
    ·cases h
   ·cases h
  ·rename_i hd;have hu := hE.run_und hd w;split at h
   ·rename_i a b ha hb;cases h;rw [G3 hx ha, G3 hy hb]
    have e : Ah U.V (.eqSS a b) = ((AT U.V a).toList == (AT U.V b).toList) := by
     rw [KW, Cc]
    rw [e];simp only [Op.equalIn, Sem.run_bind, hu, Result.andThen_ok, Sem.run_pure];rw [beq_toListBytes]
   ·cases h
  ·rename_i fs hd;split at h
   ·rename_i xs ys;split at h
    ·cases h
    ·rename_i hs;cases hx with
     | agg _ xs' a1 a2 =>
      cases hy with
      | agg _ ys' b1 b2 =>
       have hund := hE.und hd;have hfo : E.P.fieldsOf t = fs := by simp [Program.fieldsOf, hund]
       rw [run_equalIn_struct w d t xs'.toArray ys'.toArray (by rw [hfo]; exact hund) hs, hfo]
       exact H8 hE ih ⟨a1, a2⟩ ⟨b1, b2⟩ h
   ·cases h
  ·rename_i len e hd;split at h
   ·rename_i xs ys;split at h
    ·rename_i hh;cases hx with
     | agg _ xs' a1 a2 =>
      cases hy with
      | agg _ ys' b1 b2 =>
       unfold Env.has at hh;cases hi : E.ty.get e with
       | none => simp [hi] at hh
       | some inf =>
        have hcs : E.P.cellsOf e = E.size e := by simp [Program.cellsOf, hE.ty e inf hi, Env.size, hi]
        rw [run_equalIn_array w d xs'.toArray ys'.toArray (hE.und hd) (hE.ty e inf hi), hcs, List.range_eq_range'];exact JP hE ih ⟨a1, a2⟩ ⟨b1, b2⟩ h
    ·cases h
   ·cases h
  ·cases h
theorem Vk {op : BinOp} {t : TypeId} {ox oy : Operand} {x y r : AV} {xv yv : Value} (hx : VR ρ x xv) (hy : VR ρ y yv) (hr : WM E op t x y = some r) :
  ∃ v, (do eqGuard op t ox oy xv yv; binOp op t xv yv : Sem Value).run E.P w = .ok v w ∧ VR ρ r v := by
 unfold WM at hr;split at hr
 ·rename_i xs ys;split at hr
  ·cases hr
  ·rename_i hg0;split at hr
   ·rename_i e he;have hrun := Oi (w := w) hE 10000 t _ _ e xv yv he hx hy;cases hx with
    | agg _ xs' a1 a2 =>
     cases hy with
     | agg _ ys' b1 b2 =>
      have hg : (eqGuard op t ox oy (.agg xs'.toArray) (.agg ys'.toArray)).run E.P w = .ok () w := B6 (by simp) (fun _ _ => hg0)
      obtain ⟨q1, q2⟩ := Ej t (.agg xs'.toArray) (.agg ys'.toArray) (by simp) (by simp) (by simp) (by simp)
      split at hr
      ·rename_i q hq;cases hr;have hm := GS ρ q e;cases op <;> simp only [BV, Option.some.injEq] at hq <;> first | (cases hq; done) | skip
       ·subst hq;refine ⟨.bool (Ah U.V e), ?_, ?_⟩
        ·simp only [Sem.run_bind, hg, Result.andThen_ok, q1, Op.equal, Op.maxDepth, hrun, Sem.run_pure]
        ·rwa [show (Ah U.V e == true) = Ah U.V e by cases Ah U.V e <;> rfl] at hm
       ·subst hq;refine ⟨.bool (!Ah U.V e), ?_, ?_⟩
        ·simp only [Sem.run_bind, hg, Result.andThen_ok, q2, Op.equal, Op.maxDepth, hrun, Sem.run_pure]
        ·rwa [show (Ah U.V e == !true) = !Ah U.V e by cases Ah U.V e <;> rfl] at hm
      ·cases hr
   ·cases hr
 ·cases hr
theorem bb {t : TypeId} {k key : AV} {kv keyv : Value} {b : Bool} (h : eqK E t k key = some b) (hk : VR ρ k kv) (hy : VR ρ key keyv) : (Op.equal t kv keyv).run E.P w = .ok b w := by
 unfold eqK at h;split at h
 ·rename_i c hc;cases h;exact QT (w := w) hE 10000 t k key b kv keyv hc hk hy
 ·split at h
  ·rename_i e he;have := Oi (w := w) hE 10000 t k key e kv keyv he hk hy;rw [Aw U.ok h] at this;exact this
  ·cases h
theorem JV {t : TypeId} {k : AV} {kv : Value} (hk : VR ρ k kv) : ∀ {es : List AP} {es' : List MapEntry} {i : Nat} {r : Option (Nat × AV)}, ER ρ es es' → Fc E t k es i = some r →
  ∃ r', FR ρ r r' ∧ (Instr.findAsking t kv es' i).run E.P w = .ok r' w
 | [], [], i, r, _, h => by
  simp only [Fc, Option.some.injEq] at h;subst h;exact ⟨none, trivial, by simp [Instr.findAsking]⟩
 | e :: es, e' :: es', i, r, ⟨h1, h2, h3, h4⟩, h => by
  simp only [Fc] at h;cases ha : eqK E t k e.key with
  | none => simp [ha] at h
  | some b =>
   have hask : (Op.equal t kv e'.key).run E.P w = .ok b w := bb hE ha hk h1;cases b with
   | true =>
    simp only [ha, Option.some.injEq] at h;subst h;exact ⟨some (i, e'.val), ⟨rfl, h2⟩, by simp [Instr.findAsking, hask]⟩
   | false =>
    simp only [ha] at h;obtain ⟨r', q1, q2⟩ := JV hk h4 h;exact ⟨r', q1, by simp [Instr.findAsking, hask, q2]⟩
omit hE in
theorem H1 {d : Nat} {t : TypeId} {ds : TypeDesc} (hd : E.desc t = some ds) {x y : AV} {e : SE} {b : Bool} {xv yv : Value} (he : HA E (d + 1) t x y = some e) (hb : Ah U.V e = b) (hx : VR ρ x xv) (hy : VR ρ y yv) :
  Instr.sameNow ds xv yv = some b ∨ ∀ u v, Instr.sameNow ds u v = none := by
 simp only [HA, hd] at he;cases ds with
 | int q =>
  simp only at he;split at he
  ·rename_i k a k' c h1 h2;split at he
   ·rename_i hk;cases he;have hk : k = k' := by simpa using hk
    subst hk;rw [CY hx h1, CY hy h2];rw [RQ] at hb;exact .inl (by simp [Instr.sameNow, hb])
   ·cases he
  ·cases he
 | string =>
  simp only at he;split at he
  ·rename_i a c h1 h2;cases he;rw [G3 hx h1, G3 hy h2];rw [KW, Cc] at hb;exact .inl (by simp only [Instr.sameNow]; rw [beq_toListBytes, hb])
  ·cases he
 | bool =>
  simp only at he;split at he
  ·rename_i a c h1 h2;cases he;rw [HV hx h1, HV hy h2];rw [SW] at hb;exact .inl (by simp [Instr.sameNow, hb])
  ·cases he
 | _ => exact .inr (fun u v => by cases u <;> cases v <;> rfl)
omit hE in
theorem Py {t : TypeId} {ds : TypeDesc} (hd : E.desc t = some ds) {x y : AV} {b : Bool} {xv yv : Value} (ha : eqK E t x y = some b) (hx : VR ρ x xv) (hy : VR ρ y yv) :
  Instr.sameNow ds xv yv = some b ∨ ∀ u v, Instr.sameNow ds u v = none := by
 unfold eqK at ha;split at ha
 ·rename_i c hc;cases ha;exact Mf (d := 9999) hd hc hx hy
 ·split at ha
  ·rename_i e he;have hb := Aw U.ok ha;exact H1 (d := 9999) hd he hb hx hy
  ·cases ha
omit hE in
theorem JX {t : TypeId} {ds : TypeDesc} (hd : E.desc t = some ds) {k : AV} {kv : Value} (hk : VR ρ k kv) (hq : ¬ ∀ u v, Instr.sameNow ds u v = none) : ∀ {es : List AP} {es' : List MapEntry} {i : Nat} {r : Option (Nat × AV)}, ER ρ es es' → Fc E t k es i = some r →
  ∃ r', FR ρ r r' ∧ Instr.findNow ds kv es' i = some r'
 | [], [], i, r, _, h => by
  simp only [Fc, Option.some.injEq] at h;subst h;exact ⟨none, trivial, rfl⟩
 | e :: es, e' :: es', i, r, ⟨h1, h2, h3, h4⟩, h => by
  simp only [Fc] at h;cases ha : eqK E t k e.key with
  | none => simp [ha] at h
  | some b =>
   have hs : Instr.sameNow ds kv e'.key = some b := (Py hd ha hk h1).resolve_right hq;cases b with
   | true =>
    simp only [ha, Option.some.injEq] at h;subst h;exact ⟨some (i, e'.val), ⟨rfl, h2⟩, by simp [Instr.findNow, hs]⟩
   | false =>
    simp only [ha] at h;obtain ⟨r', q1, q2⟩ := JX hd hk hq h4 h;exact ⟨r', q1, by simp [Instr.findNow, hs, q2]⟩
theorem J6 {t : TypeId} {ds : TypeDesc} (hd : E.desc t = some ds) {k : AV} {kv : Value} (hk : VR ρ k kv) {es : List AP} {es' : List MapEntry} {r : Option (Nat × AV)} (he : ER ρ es es') (h : Fc E t k es 0 = some r) :
  ∃ r', FR ρ r r' ∧ (Instr.findKey t kv es').run E.P w = .ok r' w := by
 by_cases hq : ∀ u v, Instr.sameNow ds u v = none
 ·cases es' with
  | nil =>
   cases es with
   | nil =>
    simp only [Fc, Option.some.injEq] at h;subst h;exact ⟨none, trivial, by simp [Instr.findKey, hE.run_und hd, Instr.findNow]⟩
   | cons e es => cases he
  | cons e' es' =>
   obtain ⟨r', q1, q2⟩ := JV (w := w) hE hk he h;exact ⟨r', q1, by simp [Instr.findKey, hE.run_und hd, Instr.findNow, hq, q2]⟩
 ·obtain ⟨r', q1, q2⟩ := JX hd hk hq he h;exact ⟨r', q1, by simp [Instr.findKey, hE.run_und hd, q2]⟩
end
end Go.AE
namespace Go.AE
section
variable [U : Unk]
theorem Vu (V : Val) : ∀ e : SE, Ah V e = (K0 e).all (Ah V) := by
 intro e
 induction e with
 | and a b iha ihb =>
  show (Ah V a && Ah V b) = (K0 a ++ K0 b).all (Ah V);rw [List.all_append, ← iha, ← ihb]
 | bc b =>
  cases b with
  | true => rfl
  | false => rfl
 | _ => simp [K0]
theorem Lv : ∀ {l m : List SE}, Kv l m = true → l = m
 | [], [], _ => rfl
 | a :: l, b :: m, h => by
  simp only [Kv] at h;obtain ⟨h1, h2⟩ := Av h;rw [SE.same_eq h1, Lv h2]
 | [], _ :: _, h => by cases h
 | _ :: _, [], h => by cases h
theorem Nl (l b l' b' : Nat) : strEq l b l' b' = strEq l' b' l b := by
 simp only [strEq];rw [Bool.eq_iff_iff];simp only [Bool.and_eq_true, Nat.beq_eq];constructor <;> (rintro ⟨rfl, rfl⟩; exact ⟨rfl, rfl⟩)
theorem C6 {α : Type} {a : α} {l : List α} {d : α} (q : Nat) : (a :: l).getD (q + 1) d = l.getD q d := by
 simp [List.getD_eq_getElem?_getD]
theorem MF {α : Type} {a : α} {l : List α} {d : α} : (a :: l).getD 0 d = a := rfl
theorem P2 (V : Val) : ∀ (ks : List Kd) (i j : Nat) (c1 c2 : List D), I7 ks = true → ks.length ≤ c1.length → ks.length ≤ c2.length → (∀ q, q < ks.length → V.d (j + q) = c1.getD q default) → (∀ q, q < ks.length → V.d (i + q) = c2.getD q default) →
  (Se i j ks).all (Ah V) = Ew ks c1 c2
 | [], i, j, c1, c2, _, _, _, _, _ => by cases c1 <;> cases c2 <;> rfl
 | k :: ks, i, j, [], c2, _, h, _, _, _ => by simp at h
 | k :: ks, i, j, _ :: _, [], _, _, h, _, _ => by simp at h
 | k :: ks, i, j, a :: c1, b :: c2, hs, h1, h2, g1, g2 => by
  have ea : V.d j = a := by have := g1 0 (by simp); simpa using this
  have eb : V.d i = b := by have := g2 0 (by simp); simpa using this
  have rc := fun hs' => P2 V ks (i + 1) (j + 1) c1 c2 hs' (by simpa using h1) (by simpa using h2)
   (fun q hq => by have := g1 (q + 1) (by simp; omega); rw [C6] at this; rw [← this]; congr 1; omega)
   (fun q hq => by have := g2 (q + 1) (by simp; omega); rw [C6] at this; rw [← this]; congr 1; omega)
  simp only [Se, List.all_cons];cases k with
  | int k =>
   rw [rc hs];show (((V.d i).toInt == (V.d j).toInt) && _) = ((a.toInt == b.toInt) && _);rw [ea, eb, Bool.beq_comm]
  | bool =>
   rw [rc hs]
   have : Ah V (aQ i j .bool) = (a.toBool == b.toBool) := by
    show (!((!(((V.d i).toBool && true) && ((V.d j).toBool && true))) && (!((!((V.d i).toBool && true)) && (!((V.d j).toBool && true)))))) = _;rw [ea, eb];cases a.toBool <;> cases b.toBool <;> rfl
   rw [this];rfl
  | str =>
   rw [rc hs]
   have : Ah V (aQ i j .str) = D.strEq a b := by
    show strEq (V.d i).toStr.data.toList.length (AH (V.d i).toStr.data.toList) (V.d j).toStr.data.toList.length (AH (V.d j).toStr.data.toList) = _;rw [ea, eb, Nl];rfl
   rw [this];rfl
  | slice e => simp [I7] at hs
theorem WT {ρ : Ren} {j : Nat} {kd : Kd} {v : Value} {K : TypeId → Option (List Kd)} {M : Nat → Option (Array Value)} (h : DV K M kd v (U.V.d j)) : VR ρ (kC j kd) v := by
 cases h with
 | int k n _ hr e =>
  have : Ad U.V (.var j) = n := e;rw [← this];exact .si k (.var j)
 | bool b _ e =>
  have : Ah U.V (.var j) = b := e;have q := VR.sb (ρ := ρ) true (.var j);rw [this, show (b == true) = b by cases b <;> rfl] at q
  exact q
 | str s _ e =>
  have : AT U.V (.var j) = s := e;rw [← this];exact .ss (.var j)
 | _ => exact .top _
theorem L6 {ρ : Ren} {K : TypeId → Option (List Kd)} {M : Nat → Option (Array Value)} : ∀ (ks : List Kd) (j : Nat) (l : List Value), l.length = ks.length → (∀ q kd, ks[q]? = some kd → DV K M kd (l.getD q Go.undef) (U.V.d (j + q))) → VL ρ (MT j ks) l
 | [], j, [], _, _ => VL.nil ρ
 | k :: ks, j, v :: l, h, g => by
  refine VL.cons (WT (g 0 k rfl)) (L6 (K := K) (M := M) ks (j + 1) l (by simpa using h) fun q kd hq => ?_)
  have := g (q + 1) kd (by simpa using hq)
  rw [C6] at this
  rwa [show j + (q + 1) = j + 1 + q by omega] at this
theorem OC {ρ : Ren} {l : List AV} {vs : List Value} (h : VL ρ l vs) : VR ρ (MG l) (S1 vs) := by
 cases l with
 | nil =>
  have := h.nil_inv;subst this;exact .agg [] [] h.1 h.2
 | cons a l =>
  obtain ⟨v, r, rfl, h1, h2⟩ := h.cons_inv;cases l with
  | nil =>
   have := h2.nil_inv;subst this;exact h1
  | cons b l =>
   obtain ⟨v', r', rfl, _, _⟩ := h2.cons_inv;exact .agg _ _ h.1 h.2
theorem SJ {K : TypeId → Option (List Kd)} {M : Nat → Option (Array Value)} : ∀ (ks : List Kd) (l1 l2 : List Value) (c1 c2 : List D), I7 ks = true → l1.length = ks.length → l2.length = ks.length → (∀ (j : Nat) kd, ks[j]? = some kd → DV K M kd (l1.getD j Go.undef) (c1.getD j default)) → (∀ (j : Nat) kd, ks[j]? = some kd → DV K M kd (l2.getD j Go.undef) (c2.getD j default)) →
  Ew ks c1 c2 = true → l1 = l2
 | [], [], [], _, _, _, _, _, _, _, _ => rfl
 | k :: ks, v :: l1, u :: l2, [], c2, hs, h1, h2, g1, g2, h => by cases k <;> simp [Ew] at h
 | k :: ks, v :: l1, u :: l2, _ :: _, [], hs, h1, h2, g1, g2, h => by cases k <;> simp [Ew] at h
 | k :: ks, v :: l1, u :: l2, a :: c1, b :: c2, hs, h1, h2, g1, g2, h => by
  have rc := fun hs' hk => SJ ks l1 l2 c1 c2 hs' (by simpa using h1) (by simpa using h2)
   (fun q kd hq => by have := g1 (q + 1) kd (by simpa using hq); rwa [C6, C6] at this)
   (fun q kd hq => by have := g2 (q + 1) kd (by simpa using hq); rwa [C6, C6] at this) hk
  have d1 := g1 0 k rfl;have d2 := g2 0 k rfl;simp only [MF] at d1 d2;cases k with
  | slice e => simp [I7] at hs
  | int k =>
   simp only [Ew] at h;obtain ⟨e1, e2⟩ := Av h;rw [rc hs e2];cases d1 with
   | int _ n1 _ _ q1 =>
    cases d2 with
    | int _ n2 _ _ q2 =>
     have : a.toInt = b.toInt := by simpa using e1
     rw [q1, q2] at this;rw [this]
  | bool =>
   simp only [Ew] at h;obtain ⟨e1, e2⟩ := Av h;rw [rc hs e2];cases d1 with
   | bool n1 _ q1 =>
    cases d2 with
    | bool n2 _ q2 =>
     have : a.toBool = b.toBool := by simpa using e1
     rw [q1, q2] at this;rw [this]
  | str =>
   simp only [Ew] at h;obtain ⟨e1, e2⟩ := Av h;rw [rc hs e2];cases d1 with
   | str n1 _ q1 =>
    cases d2 with
    | str n2 _ q2 =>
     have : a.toStr.toList = b.toStr.toList := by
      have e1' : strEq a.toStr.data.toList.length (AH a.toStr.data.toList) b.toStr.data.toList.length (AH b.toStr.data.toList) = true := e1;rw [Cc] at e1';simpa using e1'
     have h2 : a.toStr = b.toStr := by
      rw [ByteArray.toList_eq, ByteArray.toList_eq] at this;exact ByteArray.ext (Array.toList_inj.1 this)
     rw [q1, q2] at h2;rw [h2]
theorem aI {E : Env} (hE : OK E) {ρ : Ren} {w : World} {kt : TypeId} {ks : List Kd} (ht : G5 E kt ks = true) {v1 v2 : Value} {c1 c2 : List D} {K : TypeId → Option (List Kd)} {M : Nat → Option (Array Value)} (h1 : KV K M ks v1 c1) (h2 : KV K M ks v2 c2)
  (n1 : ks.length ≤ c1.length) (n2 : ks.length ≤ c2.length) (hd1 : ∀ q, q < ks.length → U.V.d (0 + q) = c1.getD q default) (hd2 : ∀ q, q < ks.length → U.V.d (ks.length + q) = c2.getD q default) :
  (Op.equal kt v2 v1).run E.P w = .ok (Ew ks c1 c2) w ∧ (∀ ds, E.desc kt = some ds → Instr.sameNow ds v2 v1 = some (Ew ks c1 c2) ∨ ∀ u v, Instr.sameNow ds u v = none) ∧ (Ew ks c1 c2 = true → v1 = v2) := by
 unfold G5 at ht;split at ht
 ·rename_i e he;obtain ⟨s1, s2⟩ := Av ht
  have hev : Ah U.V e = Ew ks c1 c2 := by
   rw [Vu, Lv s2];exact P2 U.V ks ks.length 0 c1 c2 s1 n1 n2 hd1 hd2
  obtain ⟨l1, a1, a2, a3, a4⟩ := h1;obtain ⟨l2, b1, b2, b3, b4⟩ := h2;have lt : ∀ {q : Nat} {kd : Kd}, ks[q]? = some kd → q < ks.length := fun h => (List.getElem?_eq_some_iff.1 h).1
  have r1 : VR ρ (MG (MT 0 ks)) v1 := by
   rw [a1];exact OC (L6 (K := K) (M := M) ks 0 l1 a2 fun q kd hq => by rw [hd1 q (lt hq)]; exact a4 q kd hq)
  have r2 : VR ρ (MG (MT ks.length ks)) v2 := by
   rw [b1];exact OC (L6 (K := K) (M := M) ks ks.length l2 b2 fun q kd hq => by rw [hd2 q (lt hq)]; exact b4 q kd hq)
  refine ⟨?_, ?_, ?_⟩
  ·have := Oi (w := w) hE 10000 kt _ _ e v2 v1 he r2 r1;rw [hev] at this;exact this
  ·intro ds hd;exact H1 (d := 9999) hd he hev r2 r1
  ·intro hk;rw [a1, b1, SJ ks l1 l2 c1 c2 s1 a2 b2 a4 b4 hk]
 ·cases ht
@[reducible] def cJ (U : Unk) (n : Nat) (c1 c2 : List D) : Unk where
 facts := []
 V := { d := fun i => if i < n then c1.getD i default else c2.getD (i - n) default, fn := U.V.fn }
 K := U.K
 R := U.R
 hR := U.hR
 ok := by intro e b h; cases h
theorem UR {E : Env} (hE : OK E) {w : World} {kt : TypeId} {ks : List Kd} (ht : G5 E kt ks = true) {v1 v2 : Value} {c1 c2 : List D} {K : TypeId → Option (List Kd)} {M : Nat → Option (Array Value)} (h1 : KV K M ks v1 c1) (h2 : KV K M ks v2 c2)
  (n1 : ks.length ≤ c1.length) (n2 : ks.length ≤ c2.length) :
  (Op.equal kt v2 v1).run E.P w = .ok (Ew ks c1 c2) w ∧ (∀ ds, E.desc kt = some ds → Instr.sameNow ds v2 v1 = some (Ew ks c1 c2) ∨ ∀ u v, Instr.sameNow ds u v = none) ∧ (Ew ks c1 c2 = true → v1 = v2) := by
 refine @aI (cJ U ks.length c1 c2) E (@OK.mk (cJ U ks.length c1 c2) E hE.ty hE.fn hE.num hE.clone hE.ixb hE.mixed hE.kd hE.ke) { m := fun _ => none, imm := fun _ => none } w kt ks ht v1 v2 c1 c2 K M h1 h2 n1 n2 ?_ ?_
 ·intro q hq;show (if 0 + q < ks.length then c1.getD (0 + q) default else _) = _
  rw [if_pos (by omega), Nat.zero_add]
 ·intro q hq;show (if ks.length + q < ks.length then _ else c2.getD (ks.length + q - ks.length) default) = _
  rw [if_neg (by omega), Nat.add_sub_cancel_left]
def Ke (ks : List Kd) (k : List D) : List MapEntry → List D → Nat → Option (Nat × Value)
 | e :: es, r :: rs, i => match Ew ks r.cells k with
  | true => some (i, e.val)
  | false => Ke ks k es rs (i + 1)
 | _, _, _ => none
section
variable {E : Env} (hE : OK E) {w : World} {kt : TypeId} {ks vks : List Kd} (ht : G5 E kt ks = true) {K : TypeId → Option (List Kd)} {M : Nat → Option (Array Value)} {kv : Value} {k : List D} (hk : KV K M ks kv k) (hkl : ks.length ≤ k.length)
include hE ht hk hkl w
theorem JM : ∀ {es : List MapEntry} {rs : List D} {i : Nat}, Bq K M ks vks es rs → (Instr.findAsking kt kv es i).run E.P w = .ok (Ke ks k es rs i) w
 | [], [], i, _ => by simp [Instr.findAsking, Ke]
 | e :: es, r :: rs, i, ⟨h1, h2, h3, h4⟩ => by
  obtain ⟨q, _, _⟩ := UR (w := w) hE ht h2 hk (by omega) hkl
  have rc := JM (i := i + 1) h4;simp only [Instr.findAsking, Ke, Sem.run_bind, q, Result.andThen_ok];cases Ew ks r.cells k with
  | true => simp
  | false => simpa using rc
 | [], _ :: _, _, h => h.elim
 | _ :: _, [], _, h => h.elim
theorem Jy {ds : TypeDesc} (hd : E.desc kt = some ds) (hq : ¬ ∀ u v, Instr.sameNow ds u v = none) : ∀ {es : List MapEntry} {rs : List D} {i : Nat}, Bq K M ks vks es rs → Instr.findNow ds kv es i = some (Ke ks k es rs i)
 | [], [], i, _ => rfl
 | e :: es, r :: rs, i, ⟨h1, h2, h3, h4⟩ => by
  obtain ⟨_, q, _⟩ := UR (w := w) hE ht h2 hk (by omega) hkl
  have s := (q ds hd).resolve_right hq;have rc := Jy hd hq (i := i + 1) h4;simp only [Instr.findNow, Ke, s];cases Ew ks r.cells k with
  | true => rfl
  | false => exact rc
 | [], _ :: _, _, h => h.elim
 | _ :: _, [], _, h => h.elim
theorem GU {ds : TypeDesc} (hd : E.desc kt = some ds) {es : List MapEntry} {rs : List D} (h : Bq K M ks vks es rs) : (Instr.findKey kt kv es).run E.P w = .ok (Ke ks k es rs 0) w := by
 by_cases hq : ∀ u v, Instr.sameNow ds u v = none
 ·cases es with
  | nil => cases rs with
   | nil => simp [Instr.findKey, hE.run_und hd, Instr.findNow, Ke]
   | cons _ _ => exact h.elim
  | cons e es => simp [Instr.findKey, hE.run_und hd, Instr.findNow, hq, JM (w := w) hE ht hk hkl h]
 ·simp [Instr.findKey, hE.run_und hd, Jy (w := w) hE ht hk hkl hd hq h]
end
omit U in
theorem GY {ks vks : List Kd} {K : TypeId → Option (List Kd)} {M : Nat → Option (Array Value)} {k : List D} : ∀ {es : List MapEntry} {rs : List D} (i : Nat), Bq K M ks vks es rs →
  (Ke ks k es rs i = none ∧ Hh ks k rs i = -1) ∨ ∃ n e r, Ke ks k es rs i = some (i + n, e.val) ∧ Hh ks k rs i = ((i + n : Nat) : Int) ∧ es[n]? = some e ∧ rs[n]? = some r ∧ Ew ks r.cells k = true
 | [], [], i, _ => .inl ⟨rfl, rfl⟩
 | e :: es, r :: rs, i, ⟨h1, h2, h3, h4⟩ => by
  simp only [Ke, Hh];cases hk : Ew ks r.cells k with
  | true => exact .inr ⟨0, e, r, by simp, by simp, rfl, rfl, hk⟩
  | false =>
   rcases GY (k := k) (i + 1) h4 with ⟨a, b⟩ | ⟨n, e', r', a, b, c, d, f⟩
   ·exact .inl ⟨a, b⟩
   ·exact .inr ⟨n + 1, e', r', by show Ke ks k es rs (i + 1) = _; rw [a, show i + 1 + n = i + (n + 1) by omega], by show Hh ks k rs (i + 1) = _; rw [b, show i + 1 + n = i + (n + 1) by omega], by simpa using c, by simpa using d, f⟩
 | [], _ :: _, _, h => h.elim
 | _ :: _, [], _, h => h.elim
omit U in
theorem Bq.get {ks vks : List Kd} {K : TypeId → Option (List Kd)} {M : Nat → Option (Array Value)} : ∀ {es : List MapEntry} {rs : List D} {n : Nat} {e : MapEntry} {r : D}, Bq K M ks vks es rs → es[n]? = some e → rs[n]? = some r →
  r.cells.length = ks.length + vks.length ∧ KV K M ks e.key r.cells ∧ KV K M vks e.val (r.cells.drop ks.length)
 | e :: es, r :: rs, 0, e', r', ⟨h1, h2, h3, h4⟩, g1, g2 => by
  simp only [List.getElem?_cons_zero, Option.some.injEq] at g1 g2;subst g1; subst g2;exact ⟨h1, h2, h3⟩
 | e :: es, r :: rs, n + 1, e', r', ⟨h1, h2, h3, h4⟩, g1, g2 => h4.get (by simpa using g1) (by simpa using g2)
 | [], [], n, _, _, _, g1, _ => by simp at g1
 | [], _ :: _, _, _, _, h, _, _ => h.elim
 | _ :: _, [], _, _, _, h, _, _ => h.elim
omit U in
theorem Bq.push {ks vks : List Kd} {K : TypeId → Option (List Kd)} {M : Nat → Option (Array Value)} {x : MapEntry} {y : D} (h1 : y.cells.length = ks.length + vks.length) (h2 : KV K M ks x.key y.cells) (h3 : KV K M vks x.val (y.cells.drop ks.length)) : ∀ {es : List MapEntry} {rs : List D}, Bq K M ks vks es rs → Bq K M ks vks (es ++ [x]) (rs ++ [y])
 | [], [], _ => ⟨h1, h2, h3, trivial⟩
 | e :: es, r :: rs, ⟨g1, g2, g3, g4⟩ => ⟨g1, g2, g3, Bq.push h1 h2 h3 g4⟩
 | [], _ :: _, h => h.elim
 | _ :: _, [], h => h.elim
omit U in
theorem Bq.erase {ks vks : List Kd} {K : TypeId → Option (List Kd)} {M : Nat → Option (Array Value)} : ∀ {es : List MapEntry} {rs : List D} (n : Nat), Bq K M ks vks es rs → Bq K M ks vks (es.eraseIdx n) (rs.eraseIdx n)
 | [], [], _, _ => by simp [Bq]
 | e :: es, r :: rs, 0, ⟨g1, g2, g3, g4⟩ => g4
 | e :: es, r :: rs, n + 1, ⟨g1, g2, g3, g4⟩ => ⟨g1, g2, g3, g4.erase n⟩
 | [], _ :: _, _, h => h.elim
 | _ :: _, [], _, h => h.elim
omit U in
theorem Bq.change {ks vks : List Kd} {K : TypeId → Option (List Kd)} {M : Nat → Option (Array Value)} {x : MapEntry} {y : D} (h1 : y.cells.length = ks.length + vks.length) (h2 : KV K M ks x.key y.cells) (h3 : KV K M vks x.val (y.cells.drop ks.length)) : ∀ {es es' : List MapEntry} {rs rs' : List D} (n : Nat), Bq K M ks vks es rs → es'.length = es.length → rs'.length = rs.length →
  (∀ q, q ≠ n → es'[q]? = es[q]?) → (∀ q, q ≠ n → rs'[q]? = rs[q]?) → (n < es.length → es'[n]? = some x) → (n < rs.length → rs'[n]? = some y) → Bq K M ks vks es' rs'
 | [], [], [], [], n, _, _, _, _, _, _, _ => trivial
 | e :: es, e' :: es', r :: rs, r' :: rs', 0, ⟨g1, g2, g3, g4⟩, l1, l2, a1, a2, a3, a4 => by
  have b1 := a3 (by simp)
  have b2 := a4 (by simp)
  simp only [List.getElem?_cons_zero, Option.some.injEq] at b1 b2;subst b1; subst b2;have c1 : es' = es := List.ext_getElem? fun q => by have := a1 (q + 1) (by omega); simpa using this
  have c2 : rs' = rs := List.ext_getElem? fun q => by have := a2 (q + 1) (by omega); simpa using this
  rw [c1, c2];exact ⟨h1, h2, h3, g4⟩
 | e :: es, e' :: es', r :: rs, r' :: rs', n + 1, ⟨g1, g2, g3, g4⟩, l1, l2, a1, a2, a3, a4 => by
  have b1 := a1 0 (by omega)
  have b2 := a2 0 (by omega)
  simp only [List.getElem?_cons_zero, Option.some.injEq] at b1 b2;subst b1; subst b2
  exact ⟨g1, g2, g3, Bq.change h1 h2 h3 n g4 (by simpa using l1) (by simpa using l2) (fun q hq => by have := a1 (q + 1) (by omega); simpa using this) (fun q hq => by have := a2 (q + 1) (by omega); simpa using this)
   (fun hn => by have := a3 (by simp; omega); simpa using this) (fun hn => by have := a4 (by simp; omega); simpa using this)⟩
 | [], _ :: _, _, _, _, _, l1, _, _, _, _, _ => by simp at l1
 | _ :: _, [], _, _, _, _, l1, _, _, _, _, _ => by simp at l1
 | [], [], _ :: _, _, _, h, _, _, _, _, _, _ => h.elim
 | [], [], [], _ :: _, _, _, _, l2, _, _, _, _ => by simp at l2
 | _ :: _, _ :: _, [], _, _, h, _, _, _, _, _, _ => h.elim
 | _ :: _, _ :: _, _ :: _, [], _, _, _, l2, _, _, _, _ => by simp at l2
end
end Go.AE

