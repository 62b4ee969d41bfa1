/- What is proved here: an evaluator of the model's steps that the kernel can run, and that whatever it answers is what the model does (part 5 of 5: AeRun4, AeOK, AeTop). Conditions: those that each theorem states; they hold of no one program. -/
import Derived.Test.YtblbdipjchmehaaAeD
import Derived.Eval
import Derived.KernelRfl
import Derived.Carry
import Derived.Handed
set_option linter.unusedSectionVars false
/-! AeRun4 -/
namespace Go.AE
variable [U : Unk]
set_option linter.unusedVariables false

section
variable {E : Env} (hE : OK E)
include hE

/-- THE RUN: what the evaluator finds is what the machine comes to. -/
theorem run_ok : ∀ (f : Nat) (f0 : FuncId) (rd : Bool) (s : AS) (ρ : Ren) (c : Frame) (ccs : List Frame) (w : World) (ok : Bool) (v : AV) (h : AHeap), SR ρ s c ccs w → WF s.h → runA E f f0 rd s = some (ok, v, h) → Free ρ s.h.nx h.nx →
    ∀ base : List Frame, ∃ σ cf v' w1 w', Steps E.P (lone c (ccs ++ base) w) (lone cf base w1) ∧ cf.fn = f0 ∧ (rd = false → cf.roundOf = none) ∧ Ends E.P cf w1 ok v' w' ∧ VR σ v v' ∧ HR σ h.blk.get w' ∧ Ext ρ σ s.h h w w' := by
  intro f
  induction f with
  | zero => intro f0 rd s ρ c ccs w ok v h hsr hwf hx; cases hx
  | succ f ih =>
    intro f0 rd s ρ c ccs w ok v h hsr hwf hx hfree base
    -- going on from a later state
    have go : ∀ (s' : AS) (σ : Ren) (c' : Frame) (ccs' : List Frame) (w1 : World), Steps E.P (lone c (ccs ++ base) w) (lone c' (ccs' ++ base) w1) → SR σ s' c' ccs' w1 → Ext ρ σ s.h s'.h w w1 → runA E f f0 rd s' = some (ok, v, h) →
        ∃ σ cf v' w1 w', Steps E.P (lone c (ccs ++ base) w) (lone cf base w1) ∧ cf.fn = f0 ∧ (rd = false → cf.roundOf = none) ∧ Ends E.P cf w1 ok v' w' ∧ VR σ v v' ∧ HR σ h.blk.get w' ∧ Ext ρ σ s.h h w w' := by
      intro s' σ c' ccs' w1 h1 h2 h3 h4
      obtain ⟨τ, cf, v', w2, w', q1, q2, q3, q4, q5, q6, q7⟩ := ih f0 rd s' σ c' ccs' w1 ok v h h2 (h3.wf hwf) h4 (h3.free hfree) base
      exact ⟨τ, cf, v', w2, w', Steps.trans h1 q1, q2, q3, q4, q5, q6, h3.trans q7 hfree⟩
    simp only [runA] at hx
    split at hx
    · rename_i s' hst
      split at hx
      · rename_i hb
        have hmono := runA_mono f f0 rd s' ok v h hx
        obtain ⟨σ, cf', ccs', w', q1, q2, q3⟩ := stepA_ok (base := base) hE hsr hst (fun b h1 h2 => hfree b h1 (by omega))
        exact go s' σ cf' ccs' w' (Steps.one q1) q2 q3 hx
      · cases hx
    · rename_i ok' v' h' hst
      split at hx
      · rename_i hb
        simp only [Option.some.injEq, Prod.mk.injEq] at hx
        obtain ⟨rfl, rfl, rfl⟩ := hx
        obtain ⟨rfl, x, w', q1, q2, q3, q4⟩ := stepA_done hE hsr hst
        obtain ⟨b1, b2⟩ := andT hb
        have hfn := beqT (andT b1).2
        refine ⟨ρ, c, x, w, w', Steps.refl _ _, hsr.fr.fn.trans hfn, fun hrd => ?_, q4, q1, q2, q3⟩
        subst hrd
        have hround := hsr.fr.round
        simp only [Bool.false_or, Option.isNone_iff_eq_none] at b2
        rw [b2] at hround
        exact hround.none_inv
      · cases hx
    · rename_i s2 ops k hst
      obtain ⟨rfl, hm, id, ht⟩ := stepA_draw hst
      have hF : CallOK E (fun fr h => runA E f fr.fn true { fr, cs := [], h }) := by
        intro fr g g' ok v ρ cf w hfr hr hwf hx hfree c0 base
        obtain ⟨σ, cf', v', w1, w', q1, q2, q3, q4, q5, q6, q7⟩ := ih fr.fn true { fr, cs := [], h := g } ρ cf [] w ok v g' ⟨hfr, .nil, hr⟩ hwf hx hfree (c0 :: base)
        refine ⟨σ, v', w', ?_, q5, q6, q7⟩
        have := Steps.trans q1 (Steps.one (q4.back c0 base))
        cases ok <;> exact this
      split at hx
      · rename_i tmps h1 hd
        have hmono := runA_mono f f0 rd _ ok v h hx
        obtain ⟨σ, c', w', q1, q2, q3⟩ := draw_ok hE hF hsr hwf hm ht hd (fun b a1 a2 => hfree b a1 (Nat.lt_of_lt_of_le a2 hmono)) base
        exact go _ σ c' ccs w' q1 q2 q3 hx
      · rename_i v1 tmps h1 hd
        have hmono := runA_mono f f0 rd _ ok v h hx
        obtain ⟨σ, c', w', q1, q2, q3⟩ := draw_ok hE hF hsr hwf hm ht hd (fun b a1 a2 => hfree b a1 (Nat.lt_of_lt_of_le a2 hmono)) base
        exact go _ σ c' ccs w' q1 q2 q3 hx
      · cases hx
    · cases hx

/-- a call of a function -/
theorem calls_ok {N : Nat} {f : FuncId} {args : List AV} {args' : List Value} {ρ : Ren} {h h' : AHeap} {w : World} {ok : Bool} {v : AV} (hx : callN E N f args h = some (ok, v, h')) (ha : VL ρ args args') (hr : HR ρ h.blk.get w) (hwf : WF h) (hfree : Free ρ h.nx h'.nx) :
    Calls E.P f args'.toArray w fun e w' => ∃ σ v', e = endOf ok v' ∧ VR σ v v' ∧ HR σ h'.blk.get w' ∧ Ext ρ σ h h' w w' := by
  intro cs
  unfold callN at hx
  split at hx
  · rename_i fr hfr
    have hfrr := enterF_ok hE hfr ha
    obtain ⟨σ, cf, v', w1, w', q1, q2, q3, q4, q5, q6, q7⟩ := run_ok hE N f false _ ρ _ [] w ok v h' ⟨hfrr, .nil, hr⟩ hwf hx hfree cs
    obtain ⟨e1, e2⟩ := q4.leaves (q3 rfl)
    subst e1
    refine ⟨endOf ok v', w', cf, ⟨σ, v', rfl, q5, q6, q7⟩, ?_, q2, e2⟩
    cases ok <;> exact q1
  · cases hx
end
end Go.AE

/-! AeOK -/
namespace Go.AE
variable [U : Unk]
set_option linter.unusedVariables false

/-- what the evaluator asks of a function's table entry -/
def okFn (x : Func) : Bool := !(x.name == "runtime.NumGoroutine") && (x.body.isSome || (!(x.name == "maps.clone") && !(x.name == "internal/bytealg.IndexByteString")) || (Extern.allNextRows.lookup x.origin).isNone)

theorem cloneNext : Extern.allNextRows.lookup "maps.clone" = none := by kernel_rfl
theorem cloneGen : Extern.allGenericRows.lookup "maps.clone" = none := by kernel_rfl
theorem cloneTyped : Extern.allTypedRows.lookup "maps.clone" = none := by kernel_rfl
theorem cloneRow : Extern.allRows.lookup "maps.clone" = some Extern.MapsClone.clone := by kernel_rfl
theorem ixbNext : Extern.allNextRows.lookup "internal/bytealg.IndexByteString" = none := by kernel_rfl
theorem ixbGen : Extern.allGenericRows.lookup "internal/bytealg.IndexByteString" = none := by kernel_rfl
theorem ixbTyped : Extern.allTypedRows.lookup "internal/bytealg.IndexByteString" = none := by kernel_rfl
theorem ixbRow : Extern.allRows.lookup "internal/bytealg.IndexByteString" = some Extern.BytealgIndexByte.indexByte := by kernel_rfl

omit U in
theorem findNext_none {x : Func} {n : String} (hn : x.name = n) (h1 : Extern.allNextRows.lookup n = none) (h2 : Extern.allNextRows.lookup x.origin = none) : Extern.findNext x = none := by
  show ((Extern.allNextRows.lookup x.name).map (· x.params x.resultTypes) <|> (Extern.allNextRows.lookup x.origin).map (· x.params x.resultTypes)) = none
  rw [hn, h1, h2]; rfl

omit U in
theorem find_some {x : Func} {n : String} {g : Array Value → Sem Value} (hn : x.name = n) (h1 : Extern.allGenericRows.lookup n = none) (h2 : Extern.allTypedRows.lookup n = none) (h3 : Extern.allRows.lookup n = some g) : Extern.find x = some g := by
  show (((Extern.allGenericRows.lookup x.name).map (· x.targs x.params x.resultTypes) <|> (Extern.allTypedRows.lookup x.name).map (· x.params x.resultTypes) <|> Extern.allRows.lookup x.name) <|> ((Extern.allGenericRows.lookup x.origin).map (· x.targs x.params x.resultTypes) <|> (Extern.allTypedRows.lookup x.origin).map (· x.params x.resultTypes) <|> Extern.allRows.lookup x.origin)) = some g
  rw [hn, h1, h2, h3]; rfl

theorem OK.of {P : Program} (hm : P.follows .mixedOrders = true) (hc : P.funcs.toList.all okFn = true) : OK (Env.of P) := by
  have hfn : ∀ f x, (Env.of P).fn.get f = some x → P.funcs[f]? = some x := by
    intro f x h
    rw [Env.of, T.get_ofList] at h
    simpa using h
  have hall : ∀ f x, (Env.of P).fn.get f = some x → okFn x = true := by
    intro f x h
    have := hfn f x h
    exact List.all_eq_true.1 hc x (by
      have h2 : P.funcs.toList[f]? = some x := by simpa using this
      exact List.mem_of_getElem? h2)
  refine ⟨fun t i h => ?_, hfn, fun f x h => ?_, fun f x h hb hn => ?_, fun f x h hb hn => ?_, hm⟩
  · rw [Env.of, T.get_ofList] at h
    have h2 : P.types[t]? = some i := by simpa using h
    have hlt : t < P.types.size := (Array.getElem?_eq_some_iff.1 h2).1
    show P.info? t = some i
    simp only [Tables.info?, if_pos hlt]
    exact h2
  · have := hall f x h
    simp only [okFn, Bool.and_eq_true, Bool.not_eq_true'] at this
    exact this.1
  · have q := hall f x h
    have ho : Extern.allNextRows.lookup x.origin = none := by simpa [okFn, hb, hn] using q
    exact ⟨findNext_none hn cloneNext ho, find_some hn cloneGen cloneTyped cloneRow⟩
  · have q := hall f x h
    have ho : Extern.allNextRows.lookup x.origin = none := by simpa [okFn, hb, hn] using q
    exact ⟨findNext_none hn ixbNext ho, find_some hn ixbGen ixbTyped ixbRow⟩
end Go.AE

/-! AeTop -/
namespace Go.AE
open Go.RowKit
set_option linter.unusedVariables false

/-! A LAW: a function of plain data, run with unknown arguments; the ways through it parted by a tree of tests. -/

/-- the kinds of a cell -/
inductive Kd where
  | int (k : IntKind)
  | bool
  | str
  | slice

def kindsFs (E : Env) (rec_ : TypeId → Option (List Kd)) : List Field → Nat → Option (List Kd)
  | [], _ => some []
  | f :: r, off => match Nat.beq f.offset off, rec_ f.type with
    | true, some ks => match E.szIs f.type ks.length, kindsFs E rec_ r (off + ks.length) with
      | true, some l => some (ks ++ l)
      | _, _ => none
    | _, _ => none
/-- the kinds of a type's cells -/
def kindsF (E : Env) : Nat → TypeId → Option (List Kd)
  | 0, _ => none
  | n + 1, t => match E.desc t with
    | some (.int k) => some [.int k]
    | some .bool => some [.bool]
    | some .string => some [.str]
    | some (.slice _) => some [.slice]
    | some (.struct fs) => match kindsFs E (kindsF E n) fs.toList 0 with
      | some l => match E.szIs t l.length with
        | true => some l
        | false => none
      | none => none
    | _ => none

def KM : Kd → Value → Prop
  | .int k, v => ∃ n, v = .int k n ∧ (Lit.int k n).wf = true
  | .bool, v => ∃ b, v = .bool b
  | .str, v => ∃ s, v = .string s
  | .slice, v => ∃ a n c, v = .slice a n c
def KL : List Kd → List Value → Prop
  | [], [] => True
  | k :: ks, v :: vs => KM k v ∧ KL ks vs
  | _, _ => False
theorem KL.length : ∀ {ks : List Kd} {vs : List Value}, KL ks vs → ks.length = vs.length
  | [], [], _ => rfl
  | _ :: _, _ :: _, h => by simp [KL.length h.2]
theorem KL.append : ∀ {ks ks' : List Kd} {vs vs' : List Value}, KL ks vs → KL ks' vs' → KL (ks ++ ks') (vs ++ vs')
  | [], _, [], _, _, h => h
  | _ :: _, _, _ :: _, _, h, h' => ⟨h.1, KL.append h.2 h'⟩

def symCell [Facts] (j : Nat) : Kd → AV
  | .int k => mkI k (.var j)
  | .bool => mkB true (.var j)
  | .str => .ss j
  | .slice => .sl j
def symCells [Facts] : Nat → List Kd → List AV
  | _, [] => []
  | j, k :: ks => symCell j k :: symCells (j + 1) ks
def isStructD : TypeDesc → Bool
  | .struct _ => true
  | _ => false
def symArgs [Facts] (E : Env) : Nat → List TypeId → Option (List AV)
  | _, [] => some []
  | j, t :: ts => match E.desc t, kindsF E 20 t with
    | some d, some ks => match symArgs E (j + ks.length) ts with
      | some r => match isStructD d with
        | true => some (.agg (symCells j ks) :: r)
        | false => match symCells j ks with
          | [a] => some (a :: r)
          | _ => none
      | none => none
    | _, _ => none
def allKinds (E : Env) : List TypeId → Option (List Kd)
  | [] => some []
  | t :: ts => match kindsF E 20 t, allKinds E ts with
    | some ks, some l => some (ks ++ l)
    | _, _ => none
def rangeFacts : Nat → List Kd → List (SB × Bool)
  | _, [] => []
  | j, .int k :: r => match decide (k = .i64) with
    | true => rangeFacts (j + 1) r
    | false => (.lss (.var j) (.c k.min), false) :: (.lss (.c k.max) (.var j), false) :: rangeFacts (j + 1) r
  | j, _ :: r => rangeFacts (j + 1) r

inductive DT where
  | leaf
  | split (e : SB) (t f : DT)
def checkDT (run : List (SB × Bool) → Bool) : DT → List (SB × Bool) → Bool
  | .leaf, F => run F
  | .split e t f, F => match checkDT run t ((e, true) :: F) with
    | true => checkDT run f ((e, false) :: F)
    | false => false
def okDone : Option (Bool × AV × AHeap) → Bool
  | some (true, .bool true, _) => true
  | _ => false
def lawRun (E : Env) (N : Nat) (f : FuncId) (ts : List TypeId) (F : List (SB × Bool)) : Bool :=
  match @symArgs ⟨F⟩ E 0 ts with
  | some args => okDone (@callN ⟨F⟩ E N f args { blk := .nil, nx := 0, log := [] })
  | none => false
def lawCheck (E : Env) (N : Nat) (f : FuncId) (ts : List TypeId) (dt : DT) : Bool :=
  match allKinds E ts with
  | some ks => checkDT (lawRun E N f ts) dt (rangeFacts 0 ks)
  | none => false

@[reducible] def noUnk : Unk := { facts := [], V := ⟨fun _ => 0, fun _ => false, fun _ => .empty, fun _ => (none, 0, 0)⟩, ok := by simp }

/-- the unknowns are the arguments' cells -/
def valOf (cs : List Value) : Val where
  I j := match cs[j]? with | some (.int _ n) => n | _ => 0
  B j := match cs[j]? with | some (.bool b) => b | _ => false
  S j := match cs[j]? with | some (.string s) => s | _ => .empty
  L j := match cs[j]? with | some (.slice a n c) => (a, n, c) | _ => (none, 0, 0)

theorem symCells_ok [U : Unk] {all : List Value} (hV : U.V = valOf all) (ρ : Ren) : ∀ (ks : List Kd) (vs : List Value) (j : Nat), (∀ i, i < vs.length → all[j + i]? = vs[i]?) → KL ks vs → VL ρ (symCells j ks) vs
  | [], [], _, _, _ => VL.nil ρ
  | k :: ks, v :: vs, j, hi, h => by
    have h0 : all[j]? = some v := by have := hi 0 (by simp); simpa using this
    refine VL.cons ?_ (symCells_ok hV ρ ks vs (j + 1) (fun i hl => by have := hi (i + 1) (by simp; omega); rw [show j + 1 + i = j + (i + 1) by omega, this]; simp) h.2)
    have hk := h.1
    cases k with
    | int k =>
      obtain ⟨n, rfl, _⟩ := hk
      have := mkI_ok ρ k (.var j)
      have e : evalI U.V (.var j) = n := by rw [hV]; simp [evalI, valOf, h0]
      rw [e] at this; exact this
    | bool =>
      obtain ⟨b, rfl⟩ := hk
      have := mkB_ok ρ true (.var j)
      have e : (evalB U.V (.var j) == true) = b := by rw [hV]; simp [evalB, valOf, h0]
      rw [e] at this; exact this
    | str =>
      obtain ⟨s, rfl⟩ := hk
      have := VR.ss (ρ := ρ) j
      have e : U.V.S j = s := by rw [hV]; simp [valOf, h0]
      rw [e] at this; exact this
    | slice =>
      obtain ⟨a, n, c, rfl⟩ := hk
      have := VR.sl (ρ := ρ) j
      have e : U.V.L j = (a, n, c) := by rw [hV]; simp [valOf, h0]
      rw [e] at this; exact this

theorem rangeFacts_ok {all : List Value} : ∀ (ks : List Kd) (vs : List Value) (j : Nat), (∀ i, i < vs.length → all[j + i]? = vs[i]?) → KL ks vs → ∀ e b, (e, b) ∈ rangeFacts j ks → evalB (valOf all) e = b
  | [], [], _, _, _, e, b, hm => by simp [rangeFacts] at hm
  | k :: ks, v :: vs, j, hi, h, e, b, hm => by
    have h0 : all[j]? = some v := by have := hi 0 (by simp); simpa using this
    have ih := rangeFacts_ok ks vs (j + 1) (fun i hl => by have := hi (i + 1) (by simp; omega); rw [show j + 1 + i = j + (i + 1) by omega, this]; simp) h.2 e b
    cases k with
    | int k =>
      obtain ⟨n, rfl, hw⟩ := h.1
      have e0 : evalI (valOf all) (.var j) = n := by simp [evalI, valOf, h0]
      have hb : k.min ≤ n ∧ n ≤ k.max := by simpa [Lit.wf] using hw
      simp only [rangeFacts] at hm
      split at hm
      · exact ih hm
      · simp only [List.mem_cons, Prod.mk.injEq] at hm
        rcases hm with ⟨rfl, rfl⟩ | ⟨rfl, rfl⟩ | hm
        · have : ¬ (evalI (valOf all) (.var j) < evalI (valOf all) (.c k.min)) := by rw [e0]; simp only [evalI]; omega
          simp only [evalB, decide_eq_false_iff_not]; exact this
        · have : ¬ (evalI (valOf all) (.c k.max) < evalI (valOf all) (.var j)) := by rw [e0]; simp only [evalI]; omega
          simp only [evalB, decide_eq_false_iff_not]; exact this
        · exact ih hm
    | bool => exact ih hm
    | str => exact ih hm
    | slice => exact ih hm

section
variable {E : Env} (hE : OK E) {H : Type} {enc : TypeId × Value → H} {w : World} {base : Nat} {sp : Nat → Bool} {held : Bool}
include hE

omit hE in
theorem szIs_cells (hE : OK E) {t : TypeId} {n : Nat} (h : E.szIs t n = true) : E.P.cellsOf t = n := by
  unfold Env.szIs at h
  cases hi : E.ty.get t with
  | none => rw [hi] at h; cases h
  | some i => rw [hi] at h; simp [Program.cellsOf, hE.ty t i hi, beqT h]

theorem kindsFs_ok {rec_ : TypeId → Option (List Kd)} {m : Nat} {cs : List Value} (hrec : ∀ t ks cs x, rec_ t = some ks → DataW.trod enc E.P w base sp held m t cs = some x → KL ks cs) :
    ∀ (fs : List Field) (off : Nat) (ks : List Kd), kindsFs E rec_ fs off = some ks → (∀ f ∈ fs, ∃ x, DataW.trod enc E.P w base sp held m f.type ((cs.drop f.offset).take (E.P.cellsOf f.type)) = some x) → KL ks ((cs.drop off).take ks.length) := by
  intro fs
  induction fs with
  | nil => intro off ks h _; simp [kindsFs] at h; subst h; simp [KL]
  | cons f r ih =>
    intro off ks h hx
    simp only [kindsFs] at h
    split at h
    · rename_i k1 ho hk
      split at h
      · rename_i l hs hl
        cases h
        obtain ⟨x, hx1⟩ := hx f (by simp)
        have hoff := beqT ho
        have hsz := szIs_cells hE hs
        have q1 := hrec _ _ _ _ hk hx1
        rw [hsz, hoff] at q1
        have q2 := ih _ _ hl (fun f hf => hx f (by simp [hf]))
        have e : (cs.drop off).take (k1 ++ l).length = (cs.drop off).take k1.length ++ (cs.drop (off + k1.length)).take l.length := by
          rw [List.length_append, List.take_add, List.drop_drop]
        rw [e]
        exact q1.append q2
      · cases h
    · cases h

theorem kinds_ok : ∀ (n m : Nat) (t : TypeId) (ks : List Kd) (cs : List Value) (x : DataW H × List MemPlace), kindsF E n t = some ks → DataW.trod enc E.P w base sp held m t cs = some x → KL ks cs := by
  intro n
  induction n with
  | zero => intro m t ks cs x h; simp [kindsF] at h
  | succ n ih =>
    intro m t ks cs x h hx
    simp only [kindsF] at h
    cases hd : E.desc t with
    | none => rw [hd] at h; cases h
    | some d =>
      have hu := OK.und (U := noUnk) hE hd
      rw [hd] at h
      cases m with
      | zero => simp [DataW.trod] at hx
      | succ m =>
      cases d <;> first | (cases h; done) | skip
      case bool =>
        cases h
        unfold DataW.trod at hx
        rw [hu] at hx
        split at hx <;> simp_all [KL, KM]
      case int k =>
        cases h
        unfold DataW.trod at hx
        rw [hu] at hx
        split at hx <;> simp_all [KL, KM]
      case string =>
        cases h
        unfold DataW.trod at hx
        rw [hu] at hx
        split at hx <;> simp_all [KL, KM]
      case slice e =>
        cases h
        unfold DataW.trod at hx
        rw [hu] at hx
        split at hx <;> simp_all [KL, KM]
      case struct fs =>
        simp only at h
        split at h
        · rename_i l hl
          split at h
          · rename_i hs
            cases h
            obtain ⟨xs, q, e1, e2, e3, e4, e5⟩ := DataW.trod_struct hu hx
            have := kindsFs_ok hE (m := q) (cs := cs) (fun t ks cs x a b => ih q t ks cs x a b) fs.toList 0 ks hl (fun f hf => by
              obtain ⟨i, hi, rfl⟩ := List.getElem_of_mem hf
              have hi' : i < fs.size := by simpa using hi
              have h5 := e5 i fs[i] (by simp [hi'])
              have hxi : i < xs.length := by omega
              exact ⟨xs[i], by simpa [hxi] using h5⟩)
            have hlen : cs.length = ks.length := by rw [e3, szIs_cells hE hs]
            rw [List.drop_zero, ← hlen, List.take_length] at this
            exact this
          · cases h
        · cases h

/-- the arguments: their kinds, and what stands for them -/
theorem args_ok : ∀ (ts : List TypeId) (vs : List Value) (ds : List (DataW H)) (ps : List MemPlace) (ks : List Kd), DataW.TrodAll enc E.P w base sp held ts vs ds ps →
    (∀ (j : Nat) t v, ts[j]? = some t → vs[j]? = some v → ∃ r b0, Value.okWide E.P w r b0 t v) → allKinds E ts = some ks →
    ∃ cs : List Value, KL ks cs ∧ ∀ (U : Unk) (all : List Value) (j : Nat) (args : List AV) (ρ : Ren), U.V = valOf all → (∀ i, i < cs.length → all[j + i]? = cs[i]?) → symArgs E j ts = some args → VL ρ args vs := by
  intro ts
  induction ts with
  | nil =>
    intro vs ds ps ks hA hval hk
    cases vs with
    | nil =>
      simp [allKinds] at hk
      subst hk
      exact ⟨[], trivial, fun U all j args ρ _ _ ha => by simp [symArgs] at ha; subst ha; exact VL.nil ρ⟩
    | cons => cases ds <;> simp [DataW.TrodAll] at hA
  | cons t ts ih =>
    intro vs ds ps ks hA hval hk
    cases vs with
    | nil => cases ds <;> simp [DataW.TrodAll] at hA
    | cons v vs =>
      cases ds with
      | nil => simp [DataW.TrodAll] at hA
      | cons d ds =>
        obtain ⟨p, q, ⟨fuel, hx⟩, hA2, _⟩ := hA
        simp only [allKinds] at hk
        split at hk
        · rename_i k1 l h1 hl
          cases hk
          obtain ⟨cs, q1, q2⟩ := ih vs ds q l hA2 (fun j t v ht hv => hval (j + 1) t v (by simpa using ht) (by simpa using hv)) hl
          have hkl := kinds_ok hE 20 fuel t k1 _ _ h1 hx
          refine ⟨v.cells.toList ++ cs, hkl.append q1, ?_⟩
          intro U all j args ρ hV hall ha
          obtain ⟨r, b0, hok⟩ := hval 0 t v rfl rfl
          simp only [symArgs] at ha
          split at ha
          · rename_i d0 k1' hd h1'
            rw [h1] at h1'
            cases h1'
            have hu := OK.und (U := noUnk) hE hd
            split at ha
            · rename_i rr hrr
              have tail := q2 U all (j + k1.length) rr ρ hV (fun i hi => by
                have := hall (v.cells.toList.length + i) (by simp only [List.length_append]; omega)
                rw [List.getElem?_append_right (by omega), ← hkl.length] at this
                rw [show j + k1.length + i = j + (k1.length + i) by omega, this]
                congr 1; omega) hrr
              have head := symCells_ok hV ρ k1 v.cells.toList j (fun i hi => by
                have := hall i (by simp only [List.length_append]; omega)
                rw [this, List.getElem?_append_left hi]) hkl
              split at ha
              · rename_i hs
                cases ha
                refine VL.cons ?_ tail
                cases d0 <;> simp [isStructD] at hs
                unfold Value.okWide at hok
                rw [hu] at hok
                obtain ⟨cs', rfl, _⟩ := hok
                exact .agg _ cs'.toList head.1 head.2
              · rename_i hs
                split at ha
                · rename_i a hsym
                  cases ha
                  refine VL.cons ?_ tail
                  rw [hsym] at head
                  have hv1 : v.cells.toList = [v] := by
                    cases v <;> first | rfl | skip
                    rename_i cs'
                    exfalso
                    unfold Value.okWide at hok
                    rw [hu] at hok
                    unfold kindsF at h1
                    rw [hd] at h1
                    cases d0 <;> simp [isStructD] at hs <;> first | (cases h1; done) | skip
                    all_goals simp [Cell.okWide, Cell.ok, hu] at hok
                  rw [hv1] at head
                  obtain ⟨v', r', e1, e2, _⟩ := head.cons_inv
                  cases e1
                  exact e2
                · cases ha
            · cases ha
          · cases ha
        · cases hk

omit hE in
theorem empty_HR [U : Unk] (w : World) : HR (fun _ => none) (T.nil : T ABlk).get w := ⟨fun b base h => by simp at h, fun b base x h => by simp at h, fun b b' base base' _ h => by simp at h⟩

theorem leaf_ok {N : Nat} {f : FuncId} {ts : List TypeId} {vs all : List Value} {F : List (SB × Bool)} (hF : ∀ e b, (e, b) ∈ F → evalB (valOf all) e = b)
    (hargs : ∀ (U : Unk) (args : List AV) (ρ : Ren), U.V = valOf all → symArgs E 0 ts = some args → VL ρ args vs) (hc : lawRun E N f ts F = true) (W : World) :
    Calls E.P f vs.toArray W fun e W' => e = .returned (.bool true) ∧ Below W.heap.size W W' := by
  let U : Unk := { facts := F, V := valOf all, ok := hF }
  unfold lawRun at hc
  split at hc
  · rename_i args ha
    have hv := hargs U args (fun _ => none) rfl ha
    generalize hcall : @callN ⟨F⟩ E N f args { blk := .nil, nx := 0, log := [] } = o at hc
    unfold okDone at hc
    split at hc
    · rename_i h'
      refine (calls_ok (U := U) hE hcall hv (empty_HR W) (fun b _ => rfl) (fun b _ _ => rfl)).mono ?_
      rintro e W' ⟨σ, v', rfl, q1, q2, q3⟩
      cases q1
      exact ⟨rfl, q3.calm.os, q3.calm.tape, q3.calm.output, q3.calm.size, fun k hk => q3.kept k hk (fun b base h => by simp at h)⟩
    · cases hc
  · cases hc

theorem dt_ok {N : Nat} {f : FuncId} {ts : List TypeId} {vs all : List Value} (hargs : ∀ (U : Unk) (args : List AV) (ρ : Ren), U.V = valOf all → symArgs E 0 ts = some args → VL ρ args vs) (W : World) :
    ∀ (dt : DT) (F : List (SB × Bool)), (∀ e b, (e, b) ∈ F → evalB (valOf all) e = b) → checkDT (lawRun E N f ts) dt F = true → Calls E.P f vs.toArray W fun e W' => e = .returned (.bool true) ∧ Below W.heap.size W W' := by
  intro dt
  induction dt with
  | leaf => intro F hF hc; exact leaf_ok hE hF hargs hc W
  | split e t f iht ihf =>
    intro F hF hc
    simp only [checkDT] at hc
    split at hc
    · rename_i ht
      cases he : evalB (valOf all) e with
      | true => exact iht _ (fun e' b' hm => by
          simp only [List.mem_cons, Prod.mk.injEq] at hm
          rcases hm with ⟨rfl, rfl⟩ | hm
          · exact he
          · exact hF e' b' hm) ht
      | false => exact ihf _ (fun e' b' hm => by
          simp only [List.mem_cons, Prod.mk.injEq] at hm
          rcases hm with ⟨rfl, rfl⟩ | hm
          · exact he
          · exact hF e' b' hm) hc
    · cases hc

theorem law_ok {N : Nat} {f : FuncId} {ts : List TypeId} {vs : List Value} {ds : List (DataW H)} {ps : List MemPlace} {dt : DT} (hA : DataW.TrodAll enc E.P w base sp held ts vs ds ps)
    (hval : ∀ (j : Nat) t v, ts[j]? = some t → vs[j]? = some v → ∃ r b0, Value.okWide E.P w r b0 t v) (hc : lawCheck E N f ts dt = true) (W : World) :
    Calls E.P f vs.toArray W fun e W' => e = .returned (.bool true) ∧ Below W.heap.size W W' := by
  unfold lawCheck at hc
  split at hc
  · rename_i ks hk
    obtain ⟨cs, q1, q2⟩ := args_ok hE ts vs ds ps ks hA hval hk
    exact dt_ok hE (all := cs) (fun U args ρ hV ha => q2 U cs 0 args ρ hV (fun i _ => by simp) ha) W dt _ (rangeFacts_ok ks cs 0 (fun i _ => by simp) q1) hc
  · cases hc
end

/-! the row -/
theorem trodAll_len {H : Type} {enc : TypeId × Value → H} {P : Program} {w : World} {base : Nat} {sp : Nat → Bool} {held : Bool} : ∀ {ts : List TypeId} {vs : List Value} {ds : List (DataW H)} {ps : List MemPlace}, DataW.TrodAll enc P w base sp held ts vs ds ps → ds.length = ts.length
  | [], [], [], _, _ => rfl
  | _ :: _, _ :: _, _ :: _, _, ⟨_, _, _, h, _⟩ => by simp [trodAll_len h]
  | [], _ :: _, _, _, h => by simp [DataW.TrodAll] at h
  | [], [], _ :: _, _, h => by simp [DataW.TrodAll] at h
  | _ :: _, [], _, _, h => by simp [DataW.TrodAll] at h
  | _ :: _, _ :: _, [], _, h => by simp [DataW.TrodAll] at h

theorem trodAll_below {H : Type} {enc : TypeId × Value → H} {P : Program} (hl : laidOutB P = true) {W W' : World} (hb : Below W.heap.size W W') : ∀ {ts : List TypeId} {vs : List Value} {ds : List (DataW H)} {ps : List MemPlace},
    (∀ t ∈ ts, P.readableRec t = true ∧ t < P.types.size) → DataW.TrodAll enc P W 0 (fun _ => true) true ts vs ds ps → (∀ x ∈ ps, x.block < W.heap.size) → DataW.TrodAll enc P W' 0 (fun b => decide (b < W.heap.size)) true ts vs ds ps
  | [], [], [], _, _, h, _ => h
  | t :: ts, v :: vs, d :: ds, ps, hr, ⟨p, q, h1, h2, he⟩, hlt => by
    subst he
    exact ⟨p, q, Below.trod hl (hr t (by simp)).1 (hr t (by simp)).2 h1 hb (fun x hx => hlt x (by simp [hx])), trodAll_below hl hb (fun t ht => hr t (by simp [ht])) h2 (fun x hx => hlt x (by simp [hx])), rfl⟩
  | [], _ :: _, _, _, _, h, _ => by simp [DataW.TrodAll] at h
  | [], [], _ :: _, _, _, h, _ => by simp [DataW.TrodAll] at h
  | _ :: _, [], _, _, _, h, _ => by simp [DataW.TrodAll] at h
  | _ :: _, _ :: _, [], _, _, h, _ => by simp [DataW.TrodAll] at h

theorem law_lifted {H : Type} {enc : TypeId × Value → H} {a : Assume} {C : Checked} {os : Os} {f : FuncId} {fn : Func} {s : ChangeSpec} {conds : List PathCond} {apart : Bool} {N : Nat} {dt : DT} {tb : TypeId}
    (own : ownKnob C.prog.godebug = none) (started : os.Started) (noInit : C.prog.inits.idxOf? f = none) (hfn : C.prog.funcs[f]? = some fn)
    (witness : ∃ (w : World) (tape : Tape) (i : Input), w.os = os ∧ (w.forCall tape i).Shaped C.prog ∧ i.vars = [] ∧ Input.okWide C.prog (w.forCall tape i) .any w.heap.size f i ∧
      s.pre6 enc C.prog fn conds apart (w.forCall tape i).memory i.args ∧ a.holds C.prog (lone (Frame.enter C.prog f i.args .normal) [] (w.forCall tape i)))
    (hl : laidOutB C.prog = true) (hr : ∀ t ∈ fn.params.toList, C.prog.readableRec t = true ∧ t < C.prog.types.size) (hvars : s.vars = [])
    (hspec : ∀ ds : List (DataW H), ds.length = fn.params.toList.length → s.fn H ds = { results := [.lit (.bool true)], args := ds })
    (hres : fn.resultTypes = #[tb]) (hb : C.prog.underlying tb = some .bool) (hE : OK (Env.of C.prog)) (hc : lawCheck (Env.of C.prog) N f fn.params.toList dt = true) :
    ReturnsInHanded a C os f .any (s.pre6 enc C.prog fn conds apart) (s.post enc C.prog fn apart true false false) := by
  refine returnsInHanded_of_change own started noInit hfn witness ?_
  intro W base args ds gs before hval hW hcnd _
  have hW' := hW
  obtain ⟨p, q, hA, hV, rfl, hfz, hnd⟩ := hW
  rw [hvars] at hV
  have hgs : gs = [] ∧ q = [] := by
    cases gs with
    | nil => exact ⟨rfl, hV⟩
    | cons => simp [DataW.TrodVars] at hV
  obtain ⟨rfl, rfl⟩ := hgs
  have hlen := trodAll_len hA
  have hsp := hspec ds hlen
  refine (law_ok (E := Env.of C.prog) hE hA (fun j t v ht hv => ⟨_, _, hval j t v (by simpa using ht) (by simpa using hv)⟩) hc W).mono ?_
  rintro e W' ⟨rfl, hbelow⟩
  refine ⟨.bool true, rfl, ds, [], p ++ [], [], p, [], hW', ?_, ?_, ?_, hbelow.frame _, fun h => by cases h⟩
  · rw [List.append_nil, hsp, hres]
    exact ⟨[], [], shut_bool hb true, rfl, rfl⟩
  · rw [List.append_nil, hsp]
    exact trodAll_below hl hbelow hr hA (fun x hx => hW'.lt x (by simp [hx]))
  · rw [List.append_nil, hsp, hvars]; rfl
end Go.AE
