/- What is proved: the given statement Rows.MachineRepeatsSaid: at every input the law MachineRepeats returns true and leaves what its arguments reach as it was. Conditions: none beyond those that the given row itself states. The road: the functions that the law reaches are turned into plain functions over data, which the kernel checks; the plain law is proved of those. -/
import Derived.Test.YthkffgljlhjggaaRows
import Derived.Test.YthkffgljlhjggaaChecked
import Derived.Test.YthkffgljlhjggaaMachineRepeatsDecD
import Derived.Test.YthkffgljlhjggaaMachineRepeatsPlain
import Derived.KernelRfl
import Derived.JoinedOf
import Derived.Handed
set_option linter.unusedVariables false
set_option linter.unusedSectionVars false
set_option linter.unusedSimpArgs false
namespace Go.Proofs.Ythkffgljlhjggaa.machineRepeats
open Go.AE Mr
theorem own : ownKnob Try.prog.godebug = none := by kernel_rfl
theorem v0 [Ao] : Ah (EF m0) (An ts) := (w2) (An ts)
theorem v1 [Ao] : Ah (EF m1) (An ts) := Ah.decL (okE _ _) v0 (d := d0 E0) (fun x => Ap lt rfl x) c0 rfl (by kernel_rfl)
theorem v2 [Ao] : Ah (EF m2) (An ts) := Ah.decL (okE _ _) v1 (d := d1 E0) (fun x => Ap lt rfl x) c1 rfl (by kernel_rfl)
theorem v3 [Ao] : Ah (EF m3) (An ts) := Ah.decL (okE _ _) v2 (d := d2 E0) (fun x => Ap lt rfl x) c2 rfl (by kernel_rfl)
theorem v4 [Ao] : Ah (EF m4) (An ts) := Ah.decL (okE _ _) v3 (d := d3 E0) (fun x => Ap lt rfl x) c3 rfl (by kernel_rfl)
theorem v5 [Ao] : Ah (EF m5) (An ts) := Ah.decL (okE _ _) v4 (d := d4 E0) (fun x => Ap lt rfl x) c4 rfl (by kernel_rfl)
theorem v6 [Ao] : Ah (EF m6) (An ts) := Ah.decL (okE _ _) v5 (d := d5 E0) (fun x => Ap lt rfl x) c5 rfl (by kernel_rfl)
theorem v7 [Ao] : Ah (EF m7) (An ts) := Ah.decL (okE _ _) v6 (d := d6 E0) (fun x => Ap lt rfl x) c6 rfl (by kernel_rfl)
theorem v8 [Ao] : Ah (EF m8) (An ts) := Ah.decL (okE _ _) v7 (d := d7 E0) (fun x => Ap lt rfl x) c7 rfl (by kernel_rfl)
theorem v9 [Ao] : Ah (EF m9) (An ts) := Ah.decL (okE _ _) v8 (d := d8 E0) (fun x => Ap lt rfl x) c8 rfl (by kernel_rfl)
theorem v10 [Ao] : Ah (EF m10) (An ts) := Ah.decL (okE _ _) v9 (d := d9 E0) (fun x => Ap lt rfl x) c9 rfl (by kernel_rfl)
theorem v11 [Ao] : Ah (EF m11) (An ts) := Ah.decL (okE _ _) v10 (d := d10 E0) (fun x => Ap lt rfl x) c10 rfl (by kernel_rfl)
theorem v12 [Ao] : Ah (EF m12) (An ts) := Ah.decL (okE _ _) v11 (d := d11 E0) (fun x => Ap lt rfl x) c11 rfl (by kernel_rfl)
theorem v13 [Ao] : Ah (EF m13) (An ts) := Ah.decL (okE _ _) v12 (d := d12 E0) (fun x => Ap lt rfl x) c12 rfl (by kernel_rfl)
theorem v14 [Ao] : Ah (EF m14) (An ts) := Ah.decL (okE _ _) v13 (d := d13 E0) (fun x => Ap lt rfl x) c13 rfl (by kernel_rfl)
theorem v15 [Ao] : Ah (EF m15) (An ts) := Ah.decL (okE _ _) v14 (d := d14 E0) (fun x => Ap lt rfl x) c14 rfl (by kernel_rfl)
theorem v16 [Ao] : Ah (EF m16) (An ts) := Ah.decL (okE _ _) v15 (d := d15 E0) (fun x => Ap lt rfl x) c15 rfl (by kernel_rfl)
theorem v17 [Ao] : Ah (EF m17) (An ts) := Ah.decL (okE _ _) v16 (d := d16 E0) (fun x => Ap lt rfl x) c16 rfl (by kernel_rfl)
theorem v18 [Ao] : Ah (EF m18) (An ts) := Ah.decL (okE _ _) v17 (d := d17 E0) (fun x => Ap lt rfl x) c17 rfl (by kernel_rfl)
theorem v19 [Ao] : Ah (EF m19) (An ts) := Ah.decL (okE _ _) v18 (d := d18 E0) (fun x => Ap lt rfl x) c18 rfl (by kernel_rfl)
theorem v20 [Ao] : Ah (EF m20) (An ts) := Ah.decL (okE _ _) v19 (d := d19 E0) (fun x => Ap lt rfl x) c19 rfl (by kernel_rfl)
theorem v21 [Ao] : Ah (EF m21) (An ts) := Ah.decL (okE _ _) v20 (d := d20 E0) (fun x => Ap lt rfl x) c20 rfl (by kernel_rfl)
theorem v22 [Ao] : Ah (EF m22) (An ts) := Ah.decL (okE _ _) v21 (d := d21 E0) (fun x => Ap lt rfl x) c21 rfl (by kernel_rfl)
theorem v23 [Ao] : Ah (EF m23) (An ts) := Ah.decL (okE _ _) v22 (d := d22 E0) (fun x => Ap lt rfl x) c22 rfl (by kernel_rfl)
theorem v24 [Ao] : Ah (EF m24) (An ts) := Ah.decL (okE _ _) v23 (d := d23 E0) (fun x => Ap lt rfl x) c23 rfl (by kernel_rfl)
theorem v25 [Ao] : Ah (EF m25) (An ts) := Ah.decL (okE _ _) v24 (d := d24 E0) (fun x => Ap lt rfl x) c24 rfl (by kernel_rfl)
theorem v26 [Ao] : Ah (EF m26) (An ts) := Ah.decL (okE _ _) v25 (d := d25 E0) (fun x => Ap lt rfl x) c25 rfl (by kernel_rfl)
theorem v27 [Ao] : Ah (EF m27) (An ts) := Ah.decL (okE _ _) v26 (d := d26 E0) (fun x => Ap lt rfl x) c26 rfl (by kernel_rfl)
theorem v28 [Ao] : Ah (EF m28) (An ts) := Ah.decL (okE _ _) v27 (d := d27 E0) (fun x => Ap lt rfl x) c27 rfl (by kernel_rfl)
theorem v29 [Ao] : Ah (EF m29) (An ts) := Ah.decL (okE _ _) v28 (d := d28 E0) (fun x => Ap lt rfl x) c28 rfl (by kernel_rfl)
theorem v30 [Ao] : Ah (EF m30) (An ts) := Ah.decL (okE _ _) v29 (d := d29 E0) (fun x => Ap lt rfl x) c29 rfl (by kernel_rfl)
theorem v31 [Ao] : Ah (EF m31) (An ts) := Ah.decL (okE _ _) v30 (d := d30 E0) (fun x => Ap lt rfl x) c30 rfl (by kernel_rfl)
theorem v32 [Ao] : Ah (EF m32) (An ts) := Ah.decL (okE _ _) v31 (d := d31 E0) (fun x => Ap lt rfl x) c31 rfl (by kernel_rfl)
theorem v33 [Ao] : Ah (EF m33) (An ts) := Ah.decL (okE _ _) v32 (d := d32 E0) (fun x => Ap lt rfl x) c32 rfl (by kernel_rfl)
theorem v34 [Ao] : Ah (EF m34) (An ts) := Ah.decL (okE _ _) v33 (d := d33 E0) (fun x => Ap lt rfl x) c33 rfl (by kernel_rfl)
theorem v35 [Ao] : Ah (EF m35) (An ts) := Ah.decL (okE _ _) v34 (d := d34 E0) (fun x => Ap lt rfl x) c34 rfl (by kernel_rfl)
theorem v36 [Ao] : Ah (EF m36) (An ts) := Ah.decL (okE _ _) v35 (d := d35 E0) (fun x => Ap lt rfl x) c35 rfl (by kernel_rfl)
theorem v37 [Ao] : Ah (EF m37) (An ts) := Ah.decL (okE _ _) v36 (d := d36 E0) (fun x => Ap lt rfl x) c36 rfl (by kernel_rfl)
theorem v38 [Ao] : Ah (EF m38) (An ts) := Ah.decL (okE _ _) v37 (d := d37 E0) (fun x => Ap lt rfl x) c37 rfl (by kernel_rfl)
theorem v39 [Ao] : Ah (EF m39) (An ts) := Ah.decL (okE _ _) v38 (d := d38 E0) (fun x => Ap lt rfl x) c38 rfl (by kernel_rfl)
theorem v40 [Ao] : Ah (EF m40) (An ts) := Ah.decL (okE _ _) v39 (d := d39 E0) (fun x => Ap lt rfl x) c39 rfl (by kernel_rfl)
theorem v41 [Ao] : Ah (EF m41) (An ts) := Ah.decL (okE _ _) v40 (d := d40 E0) (fun x => Ap lt rfl x) c40 rfl (by kernel_rfl)
theorem v42 [Ao] : Ah (EF m42) (An ts) := Ah.decL (okE _ _) v41 (d := d41 E0) (fun x => Ap lt rfl x) c41 rfl (by kernel_rfl)
theorem v43 [Ao] : Ah (EF m43) (An ts) := Ah.decL (okE _ _) v42 (d := d42 E0) (fun x => Ap lt rfl x) c42 rfl (by kernel_rfl)
theorem v44 [Ao] : Ah (EF m44) (An ts) := Ah.decL (okE _ _) v43 (d := d43 E0) (fun x => Ap lt rfl x) c43 rfl (by kernel_rfl)
theorem v45 [Ao] : Ah (EF m45) (An ts) := Ah.decL (okE _ _) v44 (d := d44 E0) (fun x => Ap lt rfl x) c44 rfl (by kernel_rfl)
theorem v46 [Ao] : Ah (EF m46) (An ts) := Ah.decL (okE _ _) v45 (d := d45 E0) (fun x => Ap lt rfl x) c45 rfl (by kernel_rfl)
theorem v47 [Ao] : Ah (EF m47) (An ts) := Ah.decL (okE _ _) v46 (d := d46 E0) (fun x => Ap lt rfl x) c46 rfl (by kernel_rfl)
theorem v48 [Ao] : Ah (EF m48) (An ts) := Ah.decL (okE _ _) v47 (d := d47 E0) (fun x => Ap lt rfl x) c47 rfl (by kernel_rfl)
theorem v49 [Ao] : Ah (EF m49) (An ts) := Ah.decL (okE _ _) v48 (d := d48 E0) (fun x => Ap lt rfl x) c48 rfl (by kernel_rfl)
theorem v50 [Ao] : Ah (EF m50) (An ts) := Ah.decL (okE _ _) v49 (d := d49 E0) (fun x => Ap lt rfl x) c49 rfl (by kernel_rfl)
theorem readable : ∀ t ∈ Try.f3.params.toList, Try.prog.readableRec t = true ∧ t < Try.prog.types.size := by
 have h : (Try.f3.params.toList.all fun t => Try.prog.readableRec t && decide (t < Try.prog.types.size)) = true := by kernel_rfl
 intro t ht;have q := List.all_eq_true.mp h t ht;rw [Bool.and_eq_true, decide_eq_true_eq] at q;exact q
theorem says (H : Type) (ds : List (DataW H)) (hl : ds.length = Try.f3.params.toList.length) : Rows.machineRepeatsSpec.fn H ds = { results := [.lit (.bool true)], args := ds } := by
 have e : Try.f3.params.toList.length = 2 := by kernel_rfl
 rw [e] at hl;rcases ds with _ | ⟨d0, _ | ⟨d1, _ | ⟨d2, r⟩⟩⟩ <;> first | rfl | (simp only [List.length_cons, List.length_nil] at hl; omega)
theorem plain [Ao] (xs : List D) (h : Hx Try.prog Try.f3.params.toList xs) : An ts 50 (.row (.int 0 :: xs)) = .row [.int 1, .bool true] := by
 obtain ⟨hl, hc⟩ := UE (ks := [.str, .slice 68, .slice 46, .slice 71, .slice 36]) h (by kernel_rfl)
 have K68 : (Env.of Try.prog).kinds 68 = some [.str, .bool, .int .i64] := by kernel_rfl
 have K46 : (Env.of Try.prog).kinds 46 = some [.str, .int .i64] := by kernel_rfl
 have K71 : (Env.of Try.prog).kinds 71 = some [.str, .str, .int .i64, .str, .str, .str, .int .i64, .int .i64, .int .i64] := by kernel_rfl
 have K36 : (Env.of Try.prog).kinds 36 = some [.int .i64, .int .i64, .int .i64, .str, .str] := by kernel_rfl
 match xs, hl, hc with
 | [v0, v1, v2, v3, v4], _, hc =>
  have h1 : EP (Env.of Try.prog).kinds 9 (.slice 68) v1 := hc 1 _ rfl;have h2 : EP (Env.of Try.prog).kinds 9 (.slice 46) v2 := hc 2 _ rfl;have h3 : EP (Env.of Try.prog).kinds 9 (.slice 71) v3 := hc 3 _ rfl;have h4 : EP (Env.of Try.prog).kinds 9 (.slice 36) v4 := hc 4 _ rfl
  have nil : ∀ {e : TypeId} {v : D}, EP (Env.of Try.prog).kinds 9 (.slice e) v → Gx v := fun hb q => by
   obtain ⟨nl, rows, rfl, z, _⟩ := hb;exact z q
  exact law (fun i hi => ⟨(h3.cell (i := (i : Int)) (j := 2) K71 (by omega) (by omega) rfl).toI, (h3.cell (i := (i : Int)) (j := 6) K71 (by omega) (by omega) rfl).toI, (h3.cell (i := (i : Int)) (j := 7) K71 (by omega) (by omega) rfl).toI, (h3.cell (i := (i : Int)) (j := 8) K71 (by omega) (by omega) rfl).toI⟩)
   (fun i hi => by
    obtain ⟨b, hb⟩ := (h1.cell (i := (i : Int)) (j := 1) K68 (by omega) (by omega) rfl).toB
    obtain ⟨w, hw⟩ := (h1.cell (i := (i : Int)) (j := 2) K68 (by omega) (by omega) rfl).toI
    exact ⟨b, w, hb, hw⟩)
   (fun i hi => (h2.cell (i := (i : Int)) (j := 1) K46 (by omega) (by omega) rfl).toI)
   (fun i hi => ⟨(h4.cell (i := (i : Int)) (j := 0) K36 (by omega) (by omega) rfl).toI, (h4.cell (i := (i : Int)) (j := 1) K36 (by omega) (by omega) rfl).toI, (h4.cell (i := (i : Int)) (j := 2) K36 (by omega) (by omega) rfl).toI⟩)
   (nil h1) (nil h2) (nil h3)
theorem lifted (os : Os) (started : os.Started) (H : Type) (enc : TypeId × Value → H) :
  ReturnsInHanded {} Try.checked os 3 .any (Rows.machineRepeatsSpec.pre6 enc Try.prog Try.f3 Rows.machineRepeatsRow.domain false) (Rows.machineRepeatsSpec.post enc Try.prog Try.f3 false true false false) := by
 obtain ⟨inst⟩ := TY
 exact I2 (C := Try.checked) (d := d50 E0) (T := t50) (keys := [10, 31, 58]) (N := 20000) (tb := 4) (L := [68, 46, 71, 36]) own started (by kernel_rfl) Try.func3
  (ChangeSpec.witness6 (enc := enc) (C := Try.checked) false ⟨#[], #[.agg #[.string .empty, .slice none 0 0, .slice none 0 0, .slice none 0 0], .slice none 0 0], []⟩ 8 (by kernel_rfl) (by kernel_rfl) (by kernel_rfl) (by kernel_rfl))
  (by kernel_rfl) readable rfl (says H) (by kernel_rfl) (by kernel_rfl) (okE _ _) v50 (fun x => Ap lt rfl x) c50.chk (by kernel_rfl) rfl (by kernel_rfl) plain
theorem over : Rows.machineRepeatsRow.holds Try.pinned (OpenSpec.ofChange Rows.machineRepeatsSpec) :=
 OpenClaim.holds_of_wide 3 Try.f3 rfl rfl rfl rfl rfl rfl rfl ⟨rfl, rfl, rfl, rfl, rfl⟩ rfl rfl rfl rfl rfl (by kernel_rfl) Try.func3 (by kernel_rfl)
  (of_decide_eq_true (by kernel_rfl)) (by unfold Func.isWrapper; first | (rw [if_pos (by decide +kernel)]; kernel_rfl) | (rw [if_neg (by decide +kernel)]; exact ⟨rfl, rfl⟩))
  (fun os started H enc _ => lifted os started H enc)
theorem proved : Rows.MachineRepeatsSaid := over
end Go.Proofs.Ythkffgljlhjggaa.machineRepeats

