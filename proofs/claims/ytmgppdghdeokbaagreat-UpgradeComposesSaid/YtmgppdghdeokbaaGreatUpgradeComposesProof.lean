/- What is proved: the given statement Rows.UpgradeComposesSaid: at every input the law UpgradeComposes returns true and leaves what its arguments reach as it was. Conditions: none beyond those that the given row itself states. The road: the functions that the law reaches are turned into plain functions over data, which the kernel checks; the plain law is proved of those. -/
import Derived.Test.YtmgppdghdeokbaaGreatRows
import Derived.Test.YtmgppdghdeokbaaGreatChecked
import Derived.Test.YtmgppdghdeokbaaGreatUpgradeComposesDec
import Derived.Test.YtmgppdghdeokbaaGreatUpgradeComposesPlain
import Derived.KernelRfl
import Derived.JoinedOf
import Derived.Handed
set_option linter.unusedVariables false
set_option linter.unusedSectionVars false
set_option linter.unusedSimpArgs false
namespace Go.Proofs.YtmgppdghdeokbaaGreat.upgradeComposes
open Go.AE Uc
theorem own : ownKnob Tryz.prog.godebug = none := by kernel_rfl
theorem v0 [Au] : Af (EF m0) (Am ts) := (w41) (Am ts)
theorem v1 [Au] : Af (EF m1) (Am ts) := Af.decL (okE _ _) v0 (d := d0 E0) (fun x => Ay lt rfl x) c0 rfl (by kernel_rfl)
theorem v2 [Au] : Af (EF m2) (Am ts) := Af.decL (okE _ _) v1 (d := d1 E0) (fun x => Ay lt rfl x) c1 rfl (by kernel_rfl)
theorem v3 [Au] : Af (EF m3) (Am ts) := Af.decL (okE _ _) v2 (d := d2 E0) (fun x => Ay lt rfl x) c2 rfl (by kernel_rfl)
theorem v4 [Au] : Af (EF m4) (Am ts) := Af.decL (okE _ _) v3 (d := d3 E0) (fun x => Ay lt rfl x) c3 rfl (by kernel_rfl)
theorem v5 [Au] : Af (EF m5) (Am ts) := Af.decL (okE _ _) v4 (d := d4 E0) (fun x => Ay lt rfl x) c4 rfl (by kernel_rfl)
theorem v6 [Au] : Af (EF m6) (Am ts) := Af.decL (okE _ _) v5 (d := d5 E0) (fun x => Ay lt rfl x) c5 rfl (by kernel_rfl)
theorem v7 [Au] : Af (EF m7) (Am ts) := Af.decL (okE _ _) v6 (d := d6 E0) (fun x => Ay lt rfl x) c6 rfl (by kernel_rfl)
theorem v8 [Au] : Af (EF m8) (Am ts) := Af.decL (okE _ _) v7 (d := d7 E0) (fun x => Ay lt rfl x) c7 rfl (by kernel_rfl)
theorem v9 [Au] : Af (EF m9) (Am ts) := Af.decL (okE _ _) v8 (d := d8 E0) (fun x => Ay lt rfl x) c8 rfl (by kernel_rfl)
theorem v10 [Au] : Af (EF m10) (Am ts) := Af.decL (okE _ _) v9 (d := d9 E0) (fun x => Ay lt rfl x) c9 rfl (by kernel_rfl)
theorem v11 [Au] : Af (EF m11) (Am ts) := Af.decL (okE _ _) v10 (d := d10 E0) (fun x => Ay lt rfl x) c10 rfl (by kernel_rfl)
theorem v12 [Au] : Af (EF m12) (Am ts) := Af.decL (okE _ _) v11 (d := d11 E0) (fun x => Ay lt rfl x) c11 rfl (by kernel_rfl)
theorem v13 [Au] : Af (EF m13) (Am ts) := Af.decL (okE _ _) v12 (d := d12 E0) (fun x => Ay lt rfl x) c12 rfl (by kernel_rfl)
theorem v14 [Au] : Af (EF m14) (Am ts) := Af.decL (okE _ _) v13 (d := d13 E0) (fun x => Ay lt rfl x) c13 rfl (by kernel_rfl)
theorem v15 [Au] : Af (EF m15) (Am ts) := Af.decL (okE _ _) v14 (d := d14 E0) (fun x => Ay lt rfl x) c14 rfl (by kernel_rfl)
theorem v16 [Au] : Af (EF m16) (Am ts) := Af.decL (okE _ _) v15 (d := d15 E0) (fun x => Ay lt rfl x) c15 rfl (by kernel_rfl)
theorem v17 [Au] : Af (EF m17) (Am ts) := Af.decL (okE _ _) v16 (d := d16 E0) (fun x => Ay lt rfl x) c16 rfl (by kernel_rfl)
theorem v18 [Au] : Af (EF m18) (Am ts) := Af.decL (okE _ _) v17 (d := d17 E0) (fun x => Ay lt rfl x) c17 rfl (by kernel_rfl)
theorem v19 [Au] : Af (EF m19) (Am ts) := Af.decL (okE _ _) v18 (d := d18 E0) (fun x => Ay lt rfl x) c18 rfl (by kernel_rfl)
theorem v20 [Au] : Af (EF m20) (Am ts) := Af.decL (okE _ _) v19 (d := d19 E0) (fun x => Ay lt rfl x) c19 rfl (by kernel_rfl)
theorem v21 [Au] : Af (EF m21) (Am ts) := Af.decL (okE _ _) v20 (d := d20 E0) (fun x => Ay lt rfl x) c20 rfl (by kernel_rfl)
theorem v22 [Au] : Af (EF m22) (Am ts) := Af.decL (okE _ _) v21 (d := d21 E0) (fun x => Ay lt rfl x) c21 rfl (by kernel_rfl)
theorem v23 [Au] : Af (EF m23) (Am ts) := Af.decL (okE _ _) v22 (d := d22 E0) (fun x => Ay lt rfl x) c22 rfl (by kernel_rfl)
theorem v24 [Au] : Af (EF m24) (Am ts) := Af.decL (okE _ _) v23 (d := d23 E0) (fun x => Ay lt rfl x) c23 rfl (by kernel_rfl)
theorem v25 [Au] : Af (EF m25) (Am ts) := Af.decL (okE _ _) v24 (d := d24 E0) (fun x => Ay lt rfl x) c24 rfl (by kernel_rfl)
theorem v26 [Au] : Af (EF m26) (Am ts) := Af.decL (okE _ _) v25 (d := d25 E0) (fun x => Ay lt rfl x) c25 rfl (by kernel_rfl)
theorem v27 [Au] : Af (EF m27) (Am ts) := Af.decL (okE _ _) v26 (d := d26 E0) (fun x => Ay lt rfl x) c26 rfl (by kernel_rfl)
theorem readable : ∀ t ∈ Tryz.f5.params.toList, Tryz.prog.readableRec t = true ∧ t < Tryz.prog.types.size := by
 have h : (Tryz.f5.params.toList.all fun t => Tryz.prog.readableRec t && decide (t < Tryz.prog.types.size)) = true := by kernel_rfl
 intro t ht;have q := List.all_eq_true.mp h t ht;rw [Bool.and_eq_true, decide_eq_true_eq] at q;exact q
theorem says (H : Type) (ds : List (DataW H)) (hl : ds.length = Tryz.f5.params.toList.length) : Rows.upgradeComposesSpec.fn H ds = { results := [.lit (.bool true)], args := ds } := by
 have e : Tryz.f5.params.toList.length = 5 := by kernel_rfl
 rw [e] at hl;rcases ds with _ | ⟨d0, _ | ⟨d1, _ | ⟨d2, _ | ⟨d3, _ | ⟨d4, _ | ⟨d5, r⟩⟩⟩⟩⟩⟩ <;> first | rfl | (simp only [List.length_cons, List.length_nil] at hl; omega)
theorem plain [Au] (xs : List D) (h : GH Tryz.prog Tryz.f5.params.toList xs) : Am ts 27 (.row (.int 0 :: xs)) = .row [.int 1, .bool true] := by
 obtain ⟨hl, hc⟩ := RF (ks := [.str, .slice 98, .slice 96, .slice 101, .str, .slice 98, .slice 96, .slice 101, .str, .slice 98, .slice 96, .slice 101, .slice 103, .slice 188, .slice 103, .slice 188]) h (by kernel_rfl)
 have K64 : (Env.of Tryz.prog).kinds 101 = some [.str, .str, .int .i64, .str, .str, .str, .int .i64, .int .i64, .int .i64] := by kernel_rfl
 have K77 : (Env.of Tryz.prog).kinds 188 = some [.str, .str, .int .i64] := by kernel_rfl
 match xs, hl, hc with
 | [v0, v1, v2, v3, v4, v5, v6, v7, v8, v9, v10, v11, v12, v13, v14, v15], _, hc =>
  have S : ∀ v : D, Gm (Env.of Tryz.prog).kinds 9 (.slice 101) v → MZ v := fun v hb i hi =>
   ⟨(hb.cell (i := (i : Int)) (j := 2) K64 (by omega) (by omega) rfl).toI, (hb.cell (i := (i : Int)) (j := 6) K64 (by omega) (by omega) rfl).toI, (hb.cell (i := (i : Int)) (j := 7) K64 (by omega) (by omega) rfl).toI, (hb.cell (i := (i : Int)) (j := 8) K64 (by omega) (by omega) rfl).toI⟩
  have P : ∀ v : D, Gm (Env.of Tryz.prog).kinds 9 (.slice 188) v → C8 v := fun v h9 i hi => (h9.cell (i := (i : Int)) (j := 2) K77 (by omega) (by omega) rfl).toI
  exact law (S v3 (hc 3 _ rfl)) (S v7 (hc 7 _ rfl)) (S v11 (hc 11 _ rfl)) (P v13 (hc 13 _ rfl)) (P v15 (hc 15 _ rfl))
theorem lifted (os : Os) (started : os.Started) (H : Type) (enc : TypeId × Value → H) :
  ReturnsInHanded {} Tryz.checked os 5 .any (Rows.upgradeComposesSpec.pre6 enc Tryz.prog Tryz.f5 Rows.upgradeComposesRow.domain false) (Rows.upgradeComposesSpec.post enc Tryz.prog Tryz.f5 false true false false) := by
 obtain ⟨inst⟩ := Q8
 exact Ig (C := Tryz.checked) (d := d27 E0) (T := t27) (keys := []) (N := 20000) (tb := 4) (L := [98, 96, 101, 103, 188]) own started (by kernel_rfl) Tryz.func5
  (ChangeSpec.witness6 (enc := enc) (C := Tryz.checked) false ⟨#[], #[.agg #[.string .empty, .slice none 0 0, .slice none 0 0, .slice none 0 0], .agg #[.string .empty, .slice none 0 0, .slice none 0 0, .slice none 0 0], .agg #[.string .empty, .slice none 0 0, .slice none 0 0, .slice none 0 0], .agg #[.slice none 0 0, .slice none 0 0], .agg #[.slice none 0 0, .slice none 0 0]], []⟩ 8 (by kernel_rfl) (by kernel_rfl) (by kernel_rfl) (by kernel_rfl))
  (by kernel_rfl) readable rfl (says H) (by kernel_rfl) (by kernel_rfl) (okE _ _) v27 (fun x => Ay lt rfl x) c27.chk (by kernel_rfl) rfl (by kernel_rfl) plain
theorem over : Rows.upgradeComposesRow.holds Tryz.pinned (OpenSpec.ofChange Rows.upgradeComposesSpec) :=
 OpenClaim.holds_of_wide 5 Tryz.f5 rfl rfl rfl rfl rfl rfl rfl ⟨rfl, rfl, rfl, rfl, rfl⟩ rfl rfl rfl rfl rfl (by kernel_rfl) Tryz.func5 (by kernel_rfl)
  (of_decide_eq_true (by kernel_rfl)) (by unfold Func.isWrapper; first | (rw [if_pos (by decide +kernel)]; kernel_rfl) | (rw [if_neg (by decide +kernel)]; exact ⟨rfl, rfl⟩))
  (fun os started H enc _ => lifted os started H enc)
theorem proved : Rows.UpgradeComposesSaid := over
end Go.Proofs.YtmgppdghdeokbaaGreat.upgradeComposes

