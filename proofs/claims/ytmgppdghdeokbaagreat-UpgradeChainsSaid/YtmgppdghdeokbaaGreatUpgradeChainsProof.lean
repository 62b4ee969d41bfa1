/- What is proved: the given statement Rows.UpgradeChainsSaid: at every input the law UpgradeChains returns true and leaves what its arguments reach as it was. Conditions: none beyond those that the given row itself states. The road: the functions that the law reaches are turned into plain functions over data, which the kernel checks; the plain law is proved of those. -/
import Derived.Test.YtmgppdghdeokbaaGreatRows
import Derived.Test.YtmgppdghdeokbaaGreatChecked
import Derived.Test.YtmgppdghdeokbaaGreatUpgradeChainsDec
import Derived.Test.YtmgppdghdeokbaaGreatUpgradeChainsPlain
import Derived.KernelRfl
import Derived.JoinedOf
import Derived.Handed
set_option linter.unusedVariables false
set_option linter.unusedSectionVars false
set_option linter.unusedSimpArgs false
namespace Go.Proofs.YtmgppdghdeokbaaGreat.upgradeChains
open Go.AE Uh
theorem own : ownKnob Tryz.prog.godebug = none := by kernel_rfl
theorem v0 [Av] : Ag (EF m0) (Ax ts) := (w41) (Ax ts)
theorem v1 [Av] : Ag (EF m1) (Ax ts) := Ag.decL (okE _ _) v0 (d := d0 E0) (fun x => AK lt rfl x) c0 rfl (by kernel_rfl)
theorem v2 [Av] : Ag (EF m2) (Ax ts) := Ag.decL (okE _ _) v1 (d := d1 E0) (fun x => AK lt rfl x) c1 rfl (by kernel_rfl)
theorem v3 [Av] : Ag (EF m3) (Ax ts) := Ag.decL (okE _ _) v2 (d := d2 E0) (fun x => AK lt rfl x) c2 rfl (by kernel_rfl)
theorem v4 [Av] : Ag (EF m4) (Ax ts) := Ag.decL (okE _ _) v3 (d := d3 E0) (fun x => AK lt rfl x) c3 rfl (by kernel_rfl)
theorem v5 [Av] : Ag (EF m5) (Ax ts) := Ag.decL (okE _ _) v4 (d := d4 E0) (fun x => AK lt rfl x) c4 rfl (by kernel_rfl)
theorem v6 [Av] : Ag (EF m6) (Ax ts) := Ag.decL (okE _ _) v5 (d := d5 E0) (fun x => AK lt rfl x) c5 rfl (by kernel_rfl)
theorem v7 [Av] : Ag (EF m7) (Ax ts) := Ag.decL (okE _ _) v6 (d := d6 E0) (fun x => AK lt rfl x) c6 rfl (by kernel_rfl)
theorem v8 [Av] : Ag (EF m8) (Ax ts) := Ag.decL (okE _ _) v7 (d := d7 E0) (fun x => AK lt rfl x) c7 rfl (by kernel_rfl)
theorem v9 [Av] : Ag (EF m9) (Ax ts) := Ag.decL (okE _ _) v8 (d := d8 E0) (fun x => AK lt rfl x) c8 rfl (by kernel_rfl)
theorem v10 [Av] : Ag (EF m10) (Ax ts) := Ag.decL (okE _ _) v9 (d := d9 E0) (fun x => AK lt rfl x) c9 rfl (by kernel_rfl)
theorem v11 [Av] : Ag (EF m11) (Ax ts) := Ag.decL (okE _ _) v10 (d := d10 E0) (fun x => AK lt rfl x) c10 rfl (by kernel_rfl)
theorem v12 [Av] : Ag (EF m12) (Ax ts) := Ag.decL (okE _ _) v11 (d := d11 E0) (fun x => AK lt rfl x) c11 rfl (by kernel_rfl)
theorem v13 [Av] : Ag (EF m13) (Ax ts) := Ag.decL (okE _ _) v12 (d := d12 E0) (fun x => AK lt rfl x) c12 rfl (by kernel_rfl)
theorem v14 [Av] : Ag (EF m14) (Ax ts) := Ag.decL (okE _ _) v13 (d := d13 E0) (fun x => AK lt rfl x) c13 rfl (by kernel_rfl)
theorem v15 [Av] : Ag (EF m15) (Ax ts) := Ag.decL (okE _ _) v14 (d := d14 E0) (fun x => AK lt rfl x) c14 rfl (by kernel_rfl)
theorem v16 [Av] : Ag (EF m16) (Ax ts) := Ag.decL (okE _ _) v15 (d := d15 E0) (fun x => AK lt rfl x) c15 rfl (by kernel_rfl)
theorem v17 [Av] : Ag (EF m17) (Ax ts) := Ag.decL (okE _ _) v16 (d := d16 E0) (fun x => AK lt rfl x) c16 rfl (by kernel_rfl)
theorem v18 [Av] : Ag (EF m18) (Ax ts) := Ag.decL (okE _ _) v17 (d := d17 E0) (fun x => AK lt rfl x) c17 rfl (by kernel_rfl)
theorem v19 [Av] : Ag (EF m19) (Ax ts) := Ag.decL (okE _ _) v18 (d := d18 E0) (fun x => AK lt rfl x) c18 rfl (by kernel_rfl)
theorem v20 [Av] : Ag (EF m20) (Ax ts) := Ag.decL (okE _ _) v19 (d := d19 E0) (fun x => AK lt rfl x) c19 rfl (by kernel_rfl)
theorem v21 [Av] : Ag (EF m21) (Ax ts) := Ag.decL (okE _ _) v20 (d := d20 E0) (fun x => AK lt rfl x) c20 rfl (by kernel_rfl)
theorem v22 [Av] : Ag (EF m22) (Ax ts) := Ag.decL (okE _ _) v21 (d := d21 E0) (fun x => AK lt rfl x) c21 rfl (by kernel_rfl)
theorem readable : ∀ t ∈ Tryz.f6.params.toList, Tryz.prog.readableRec t = true ∧ t < Tryz.prog.types.size := by
 have h : (Tryz.f6.params.toList.all fun t => Tryz.prog.readableRec t && decide (t < Tryz.prog.types.size)) = true := by kernel_rfl
 intro t ht;have q := List.all_eq_true.mp h t ht;rw [Bool.and_eq_true, decide_eq_true_eq] at q;exact q
theorem says (H : Type) (ds : List (DataW H)) (hl : ds.length = Tryz.f6.params.toList.length) : Rows.upgradeChainsSpec.fn H ds = { results := [.lit (.bool true)], args := ds } := by
 have e : Tryz.f6.params.toList.length = 6 := by kernel_rfl
 rw [e] at hl;rcases ds with _ | ⟨d0, _ | ⟨d1, _ | ⟨d2, _ | ⟨d3, _ | ⟨d4, _ | ⟨d5, _ | ⟨d6, r⟩⟩⟩⟩⟩⟩⟩ <;> first | rfl | (simp only [List.length_cons, List.length_nil] at hl; omega)
theorem plain [Av] (xs : List D) (h : Hw Tryz.prog Tryz.f6.params.toList xs) : Ax ts 22 (.row (.int 0 :: xs)) = .row [.int 1, .bool true] := by
 obtain ⟨hl, hc⟩ := QL (ks := [.str, .slice 98, .slice 96, .slice 101, .str, .slice 98, .slice 96, .slice 101, .str, .slice 98, .slice 96, .slice 101, .slice 103, .slice 188, .slice 103, .slice 188, .str, .slice 3]) h (by kernel_rfl)
 have K64 : (Env.of Tryz.prog).kinds 101 = some [.str, .str, .int .i64, .str, .str, .str, .int .i64, .int .i64, .int .i64] := by kernel_rfl
 have K77 : (Env.of Tryz.prog).kinds 188 = some [.str, .str, .int .i64] := by kernel_rfl
 have K3 : (Env.of Tryz.prog).kinds 3 = some [.int .i64] := by kernel_rfl
 match xs, hl, hc with
 | [v0, v1, v2, v3, v4, v5, v6, v7, v8, v9, v10, v11, v12, v13, v14, v15, v16, v17], _, hc =>
  have S : ∀ v : D, F7 (Env.of Tryz.prog).kinds 9 (.slice 101) v → MI v := fun v hb i hi =>
   ⟨(hb.cell (i := (i : Int)) (j := 2) K64 (by omega) (by omega) rfl).toI, (hb.cell (i := (i : Int)) (j := 6) K64 (by omega) (by omega) rfl).toI, (hb.cell (i := (i : Int)) (j := 7) K64 (by omega) (by omega) rfl).toI, (hb.cell (i := (i : Int)) (j := 8) K64 (by omega) (by omega) rfl).toI⟩
  have P : ∀ v : D, F7 (Env.of Tryz.prog).kinds 9 (.slice 188) v → Du v := fun v h9 i hi => (h9.cell (i := (i : Int)) (j := 2) K77 (by omega) (by omega) rfl).toI
  have h17 : F7 (Env.of Tryz.prog).kinds 9 (.slice 3) v17 := hc 17 _ rfl;exact law (S v3 (hc 3 _ rfl)) (S v7 (hc 7 _ rfl)) (S v11 (hc 11 _ rfl)) (P v13 (hc 13 _ rfl)) (P v15 (hc 15 _ rfl)) (fun i hi => (h17.cell (i := (i : Int)) (j := 0) K3 (by omega) (by omega) rfl).toI)
theorem lifted (os : Os) (started : os.Started) (H : Type) (enc : TypeId × Value → H) :
  ReturnsInHanded {} Tryz.checked os 6 .any (Rows.upgradeChainsSpec.pre6 enc Tryz.prog Tryz.f6 Rows.upgradeChainsRow.domain false) (Rows.upgradeChainsSpec.post enc Tryz.prog Tryz.f6 false true false false) := by
 obtain ⟨inst⟩ := Ry
 exact It (C := Tryz.checked) (d := d22 E0) (T := t22) (keys := []) (N := 20000) (tb := 4) (L := [98, 96, 101, 103, 188, 3]) own started (by kernel_rfl) Tryz.func6
  (ChangeSpec.witness6 (enc := enc) (C := Tryz.checked) false ⟨#[], #[.agg #[.string .empty, .slice none 0 0, .slice none 0 0, .slice none 0 0], .agg #[.string .empty, .slice none 0 0, .slice none 0 0, .slice none 0 0], .agg #[.string .empty, .slice none 0 0, .slice none 0 0, .slice none 0 0], .agg #[.slice none 0 0, .slice none 0 0], .agg #[.slice none 0 0, .slice none 0 0], .agg #[.string .empty, .slice none 0 0]], []⟩ 8 (by kernel_rfl) (by kernel_rfl) (by kernel_rfl) (by kernel_rfl))
  (by kernel_rfl) readable rfl (says H) (by kernel_rfl) (by kernel_rfl) (okE _ _) v22 (fun x => AK lt rfl x) c22.chk (by kernel_rfl) rfl (by kernel_rfl) plain
theorem over : Rows.upgradeChainsRow.holds Tryz.pinned (OpenSpec.ofChange Rows.upgradeChainsSpec) :=
 OpenClaim.holds_of_wide 6 Tryz.f6 rfl rfl rfl rfl rfl rfl rfl ⟨rfl, rfl, rfl, rfl, rfl⟩ rfl rfl rfl rfl rfl (by kernel_rfl) Tryz.func6 (by kernel_rfl)
  (of_decide_eq_true (by kernel_rfl)) (by unfold Func.isWrapper; first | (rw [if_pos (by decide +kernel)]; kernel_rfl) | (rw [if_neg (by decide +kernel)]; exact ⟨rfl, rfl⟩))
  (fun os started H enc _ => lifted os started H enc)
theorem proved : Rows.UpgradeChainsSaid := over
end Go.Proofs.YtmgppdghdeokbaaGreat.upgradeChains

