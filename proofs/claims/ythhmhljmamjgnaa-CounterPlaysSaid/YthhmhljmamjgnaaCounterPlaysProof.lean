/- What is proved: the given statement Rows.CounterPlaysSaid: at every input the law CounterPlays returns true and leaves what its arguments reach as it was. Conditions: none beyond those that the given row itself states. The road: the functions that the law reaches are turned into plain functions over data, which the kernel checks; the plain law is proved of those. -/
import Derived.Test.YthhmhljmamjgnaaRows
import Derived.Test.YthhmhljmamjgnaaChecked
import Derived.Test.YthhmhljmamjgnaaCounterPlaysDec
import Derived.Test.YthhmhljmamjgnaaCounterPlaysPlain
import Derived.KernelRfl
import Derived.JoinedOf
import Derived.Handed
set_option linter.unusedVariables false
namespace Go.Proofs.Ythhmhljmamjgnaa.counterPlays
open Go.AE Go.CP
theorem own : ownKnob Try.prog.godebug = none := by kernel_rfl
theorem okE (m : List Sm) : ∀ [U : Unk], U.K = (Env.of Try.prog).kinds → OK (Env.ofS Try.prog [] m) := fun {U} h => OK.of (U := U) (P := Try.prog) (Checked.mixed Try.checked) (by kernel_rfl) h
theorem v0 [While] : OrcOK (Env.ofS Try.prog [] (m0 (Env.of Try.prog))) (gAll ts) := OrcOK.none (U := unk0)
theorem v1 [While] : OrcOK (Env.ofS Try.prog [] (m1 (Env.of Try.prog))) (gAll ts) :=
  OrcOK.decL (okE _) v0 (d := d0 (Env.of Try.prog)) (fun x => gAll_eq lt rfl x) c0 rfl (by kernel_rfl)
theorem v2 [While] : OrcOK (Env.ofS Try.prog [] (m2 (Env.of Try.prog))) (gAll ts) :=
  OrcOK.decL (okE _) v1 (d := d1 (Env.of Try.prog)) (fun x => gAll_eq lt rfl x) c1 rfl (by kernel_rfl)
theorem v3 [While] : OrcOK (Env.ofS Try.prog [] (m3 (Env.of Try.prog))) (gAll ts) :=
  OrcOK.decL (okE _) v2 (d := d2 (Env.of Try.prog)) (fun x => gAll_eq lt rfl x) c2 rfl (by kernel_rfl)
theorem v4 [While] : OrcOK (Env.ofS Try.prog [] (m4 (Env.of Try.prog))) (gAll ts) :=
  OrcOK.decL (okE _) v3 (d := d3 (Env.of Try.prog)) (fun x => gAll_eq lt rfl x) c3 rfl (by kernel_rfl)
theorem v5 [While] : OrcOK (Env.ofS Try.prog [] (m5 (Env.of Try.prog))) (gAll ts) :=
  OrcOK.decL (okE _) v4 (d := d4 (Env.of Try.prog)) (fun x => gAll_eq lt rfl x) c4 rfl (by kernel_rfl)
theorem v6 [While] : OrcOK (Env.ofS Try.prog [] (m6 (Env.of Try.prog))) (gAll ts) :=
  OrcOK.decL (okE _) v5 (d := d5 (Env.of Try.prog)) (fun x => gAll_eq lt rfl x) c5 rfl (by kernel_rfl)
theorem v7 [While] : OrcOK (Env.ofS Try.prog [] (m7 (Env.of Try.prog))) (gAll ts) :=
  OrcOK.decL (okE _) v6 (d := d6 (Env.of Try.prog)) (fun x => gAll_eq lt rfl x) c6 rfl (by kernel_rfl)
theorem v8 [While] : OrcOK (Env.ofS Try.prog [] (m8 (Env.of Try.prog))) (gAll ts) :=
  OrcOK.decL (okE _) v7 (d := d7 (Env.of Try.prog)) (fun x => gAll_eq lt rfl x) c7 rfl (by kernel_rfl)
theorem v9 [While] : OrcOK (Env.ofS Try.prog [] (m9 (Env.of Try.prog))) (gAll ts) :=
  OrcOK.decL (okE _) v8 (d := d8 (Env.of Try.prog)) (fun x => gAll_eq lt rfl x) c8 rfl (by kernel_rfl)
theorem v10 [While] : OrcOK (Env.ofS Try.prog [] (m10 (Env.of Try.prog))) (gAll ts) :=
  OrcOK.decL (okE _) v9 (d := d9 (Env.of Try.prog)) (fun x => gAll_eq lt rfl x) c9 rfl (by kernel_rfl)
theorem v11 [While] : OrcOK (Env.ofS Try.prog [] (m11 (Env.of Try.prog))) (gAll ts) :=
  OrcOK.decL (okE _) v10 (d := d10 (Env.of Try.prog)) (fun x => gAll_eq lt rfl x) c10 rfl (by kernel_rfl)
theorem v12 [While] : OrcOK (Env.ofS Try.prog [] (m12 (Env.of Try.prog))) (gAll ts) :=
  OrcOK.decL (okE _) v11 (d := d11 (Env.of Try.prog)) (fun x => gAll_eq lt rfl x) c11 rfl (by kernel_rfl)
theorem v13 [While] : OrcOK (Env.ofS Try.prog [] (m13 (Env.of Try.prog))) (gAll ts) :=
  OrcOK.decL (okE _) v12 (d := d12 (Env.of Try.prog)) (fun x => gAll_eq lt rfl x) c12 rfl (by kernel_rfl)
theorem v14 [While] : OrcOK (Env.ofS Try.prog [] (m14 (Env.of Try.prog))) (gAll ts) :=
  OrcOK.decL (okE _) v13 (d := d13 (Env.of Try.prog)) (fun x => gAll_eq lt rfl x) c13 rfl (by kernel_rfl)
theorem v15 [While] : OrcOK (Env.ofS Try.prog [] (m15 (Env.of Try.prog))) (gAll ts) :=
  OrcOK.decL (okE _) v14 (d := d14 (Env.of Try.prog)) (fun x => gAll_eq lt rfl x) c14 rfl (by kernel_rfl)
theorem v16 [While] : OrcOK (Env.ofS Try.prog [] (m16 (Env.of Try.prog))) (gAll ts) :=
  OrcOK.decL (okE _) v15 (d := d15 (Env.of Try.prog)) (fun x => gAll_eq lt rfl x) c15 rfl (by kernel_rfl)
theorem v17 [While] : OrcOK (Env.ofS Try.prog [] (m17 (Env.of Try.prog))) (gAll ts) :=
  OrcOK.decL (okE _) v16 (d := d16 (Env.of Try.prog)) (fun x => gAll_eq lt rfl x) c16 rfl (by kernel_rfl)
theorem v18 [While] : OrcOK (Env.ofS Try.prog [] (m18 (Env.of Try.prog))) (gAll ts) :=
  OrcOK.decL (okE _) v17 (d := d17 (Env.of Try.prog)) (fun x => gAll_eq lt rfl x) c17 rfl (by kernel_rfl)
theorem v19 [While] : OrcOK (Env.ofS Try.prog [] (m19 (Env.of Try.prog))) (gAll ts) :=
  OrcOK.decL (okE _) v18 (d := d18 (Env.of Try.prog)) (fun x => gAll_eq lt rfl x) c18 rfl (by kernel_rfl)

theorem readable : ∀ t ∈ Try.f6.params.toList, Try.prog.readableRec t = true ∧ t < Try.prog.types.size := by
  have h : (Try.f6.params.toList.all fun t => Try.prog.readableRec t && decide (t < Try.prog.types.size)) = true := by kernel_rfl
  intro t ht
  have q := List.all_eq_true.mp h t ht
  rw [Bool.and_eq_true, decide_eq_true_eq] at q
  exact q

theorem says (H : Type) (ds : List (DataW H)) (hl : ds.length = Try.f6.params.toList.length) : Rows.counterPlaysSpec.fn H ds = { results := [.lit (.bool true)], args := ds } := by
  have e : Try.f6.params.toList.length = 2 := by kernel_rfl
  rw [e] at hl
  rcases ds with _ | ⟨d0, _ | ⟨d1, _ | ⟨d2, r⟩⟩⟩ <;> first | rfl | (simp only [List.length_cons, List.length_nil] at hl; omega)

theorem plain [While] (xs : List D) (h : LawArgs Try.prog Try.f6.params.toList xs) : gAll ts 19 (.row (.int 0 :: xs)) = .row [.int 1, .bool true] := by
  obtain ⟨hl, hc⟩ := law_deep (ks := [.slice 41, .slice 62]) h (by kernel_rfl)
  match xs, hl, hc with
  | [a, b], _, hc =>
    have hb : CanK (Env.of Try.prog).kinds 9 (.slice 62) b := hc 1 _ rfl
    have hk : (Env.of Try.prog).kinds 62 = some [.int .i64, .str, .str, .int .i64, .str, .str, .str, .int .i64, .int .i64, .int .i64, .slice 3] := by kernel_rfl
    have hk3 : (Env.of Try.prog).kinds 3 = some [.int .i64] := by kernel_rfl
    exact plays a b fun i h0 hi => ⟨(hb.cell (j := 3) hk h0 hi rfl).toI, (hb.cell (j := 7) hk h0 hi rfl).toI, (hb.cell (j := 8) hk h0 hi rfl).toI, (hb.cell (j := 9) hk h0 hi rfl).toI, (hb.cell (j := 10) hk h0 hi rfl).wd hk3⟩

theorem lifted (os : Os) (started : os.Started) (H : Type) (enc : TypeId × Value → H) :
    ReturnsInHanded {} Try.checked os 6 .any (Rows.counterPlaysSpec.pre6 enc Try.prog Try.f6 Rows.counterPlaysRow.domain false) (Rows.counterPlaysSpec.post enc Try.prog Try.f6 false true false false) := by
  obtain ⟨inst⟩ := while_ex
  exact law2_lifted (C := Try.checked) (d := d19 (Env.of Try.prog)) (T := t19) (keys := [10]) (N := 20000) (tb := 4) (L := [41, 62, 3]) own started (by kernel_rfl) Try.func6
    (ChangeSpec.witness6 (enc := enc) (C := Try.checked) false ⟨#[], #[.slice none 0 0, .slice none 0 0], []⟩ 8 (by kernel_rfl) (by kernel_rfl) (by kernel_rfl) (by kernel_rfl))
    (by kernel_rfl) readable rfl (says H) (by kernel_rfl) (by kernel_rfl) (okE _) v19 (fun x => gAll_eq lt rfl x) c19.chk (by kernel_rfl) rfl (by kernel_rfl) plain

theorem over : Rows.counterPlaysRow.holds Try.pinned (OpenSpec.ofChange Rows.counterPlaysSpec) :=
  OpenClaim.holds_of_wide 6 Try.f6 rfl rfl rfl rfl rfl rfl rfl ⟨rfl, rfl, rfl, rfl, rfl⟩ rfl rfl rfl rfl rfl (by kernel_rfl) Try.func6 (by kernel_rfl)
    (of_decide_eq_true (by kernel_rfl)) (by unfold Func.isWrapper; first | (rw [if_pos (by decide +kernel)]; kernel_rfl) | (rw [if_neg (by decide +kernel)]; exact ⟨rfl, rfl⟩))
    (fun os started H enc _ => lifted os started H enc)

theorem proved : Rows.CounterPlaysSaid := over
end Go.Proofs.Ythhmhljmamjgnaa.counterPlays
