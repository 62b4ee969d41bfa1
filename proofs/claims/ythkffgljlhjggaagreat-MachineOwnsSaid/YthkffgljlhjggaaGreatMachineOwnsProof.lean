/- What is proved: the given statement Rows.MachineOwnsSaid: at every input the law MachineOwns returns true and leaves what its arguments reach as it was. Conditions: none beyond those that the given row itself states. The road: the functions that the law reaches are turned into plain functions over data, which the kernel checks; the plain law is proved of those. -/
import Derived.Test.YthkffgljlhjggaaGreatRows
import Derived.Test.YthkffgljlhjggaaGreatChecked
import Derived.Test.YthkffgljlhjggaaGreatMachineOwnsDecH
import Derived.Test.YthkffgljlhjggaaGreatMachineOwnsPlain
import Derived.KernelRfl
import Derived.JoinedOf
import Derived.Handed
set_option linter.unusedVariables false
set_option linter.unusedSectionVars false
set_option linter.unusedSimpArgs false
namespace Go.Proofs.YthkffgljlhjggaaGreat.machineOwns
open Go.AE Mo
theorem own : ownKnob Tryz.prog.godebug = none := by kernel_rfl
theorem v0 [Ap] : Ai (EF m0) (Al ts) := (w2) (Al ts)
theorem v1 [Ap] : Ai (EF m1) (Al ts) := Ai.decL (okE _ _) v0 (d := d0 E0) (fun x => Am lt rfl x) c0 rfl (by kernel_rfl)
theorem v2 [Ap] : Ai (EF m2) (Al ts) := Ai.decL (okE _ _) v1 (d := d1 E0) (fun x => Am lt rfl x) c1 rfl (by kernel_rfl)
theorem v3 [Ap] : Ai (EF m3) (Al ts) := Ai.decL (okE _ _) v2 (d := d2 E0) (fun x => Am lt rfl x) c2 rfl (by kernel_rfl)
theorem v4 [Ap] : Ai (EF m4) (Al ts) := Ai.decL (okE _ _) v3 (d := d3 E0) (fun x => Am lt rfl x) c3 rfl (by kernel_rfl)
theorem v5 [Ap] : Ai (EF m5) (Al ts) := Ai.decL (okE _ _) v4 (d := d4 E0) (fun x => Am lt rfl x) c4 rfl (by kernel_rfl)
theorem v6 [Ap] : Ai (EF m6) (Al ts) := Ai.decL (okE _ _) v5 (d := d5 E0) (fun x => Am lt rfl x) c5 rfl (by kernel_rfl)
theorem v7 [Ap] : Ai (EF m7) (Al ts) := Ai.decL (okE _ _) v6 (d := d6 E0) (fun x => Am lt rfl x) c6 rfl (by kernel_rfl)
theorem v8 [Ap] : Ai (EF m8) (Al ts) := Ai.decL (okE _ _) v7 (d := d7 E0) (fun x => Am lt rfl x) c7 rfl (by kernel_rfl)
theorem v9 [Ap] : Ai (EF m9) (Al ts) := Ai.decL (okE _ _) v8 (d := d8 E0) (fun x => Am lt rfl x) c8 rfl (by kernel_rfl)
theorem v10 [Ap] : Ai (EF m10) (Al ts) := Ai.decL (okE _ _) v9 (d := d9 E0) (fun x => Am lt rfl x) c9 rfl (by kernel_rfl)
theorem v11 [Ap] : Ai (EF m11) (Al ts) := Ai.decL (okE _ _) v10 (d := d10 E0) (fun x => Am lt rfl x) c10 rfl (by kernel_rfl)
theorem v12 [Ap] : Ai (EF m12) (Al ts) := Ai.decL (okE _ _) v11 (d := d11 E0) (fun x => Am lt rfl x) c11 rfl (by kernel_rfl)
theorem v13 [Ap] : Ai (EF m13) (Al ts) := Ai.decL (okE _ _) v12 (d := d12 E0) (fun x => Am lt rfl x) c12 rfl (by kernel_rfl)
theorem v14 [Ap] : Ai (EF m14) (Al ts) := Ai.decL (okE _ _) v13 (d := d13 E0) (fun x => Am lt rfl x) c13 rfl (by kernel_rfl)
theorem v15 [Ap] : Ai (EF m15) (Al ts) := Ai.decL (okE _ _) v14 (d := d14 E0) (fun x => Am lt rfl x) c14 rfl (by kernel_rfl)
theorem v16 [Ap] : Ai (EF m16) (Al ts) := Ai.decL (okE _ _) v15 (d := d15 E0) (fun x => Am lt rfl x) c15 rfl (by kernel_rfl)
theorem v17 [Ap] : Ai (EF m17) (Al ts) := Ai.decL (okE _ _) v16 (d := d16 E0) (fun x => Am lt rfl x) c16 rfl (by kernel_rfl)
theorem v18 [Ap] : Ai (EF m18) (Al ts) := Ai.decL (okE _ _) v17 (d := d17 E0) (fun x => Am lt rfl x) c17 rfl (by kernel_rfl)
theorem v19 [Ap] : Ai (EF m19) (Al ts) := Ai.decL (okE _ _) v18 (d := d18 E0) (fun x => Am lt rfl x) c18 rfl (by kernel_rfl)
theorem v20 [Ap] : Ai (EF m20) (Al ts) := Ai.decL (okE _ _) v19 (d := d19 E0) (fun x => Am lt rfl x) c19 rfl (by kernel_rfl)
theorem v21 [Ap] : Ai (EF m21) (Al ts) := Ai.decL (okE _ _) v20 (d := d20 E0) (fun x => Am lt rfl x) c20 rfl (by kernel_rfl)
theorem v22 [Ap] : Ai (EF m22) (Al ts) := Ai.decL (okE _ _) v21 (d := d21 E0) (fun x => Am lt rfl x) c21 rfl (by kernel_rfl)
theorem v23 [Ap] : Ai (EF m23) (Al ts) := Ai.decL (okE _ _) v22 (d := d22 E0) (fun x => Am lt rfl x) c22 rfl (by kernel_rfl)
theorem v24 [Ap] : Ai (EF m24) (Al ts) := Ai.decL (okE _ _) v23 (d := d23 E0) (fun x => Am lt rfl x) c23 rfl (by kernel_rfl)
theorem v25 [Ap] : Ai (EF m25) (Al ts) := Ai.decL (okE _ _) v24 (d := d24 E0) (fun x => Am lt rfl x) c24 rfl (by kernel_rfl)
theorem v26 [Ap] : Ai (EF m26) (Al ts) := Ai.decL (okE _ _) v25 (d := d25 E0) (fun x => Am lt rfl x) c25 rfl (by kernel_rfl)
theorem v27 [Ap] : Ai (EF m27) (Al ts) := Ai.decL (okE _ _) v26 (d := d26 E0) (fun x => Am lt rfl x) c26 rfl (by kernel_rfl)
theorem v28 [Ap] : Ai (EF m28) (Al ts) := Ai.decL (okE _ _) v27 (d := d27 E0) (fun x => Am lt rfl x) c27 rfl (by kernel_rfl)
theorem v29 [Ap] : Ai (EF m29) (Al ts) := Ai.decL (okE _ _) v28 (d := d28 E0) (fun x => Am lt rfl x) c28 rfl (by kernel_rfl)
theorem v30 [Ap] : Ai (EF m30) (Al ts) := Ai.decL (okE _ _) v29 (d := d29 E0) (fun x => Am lt rfl x) c29 rfl (by kernel_rfl)
theorem v31 [Ap] : Ai (EF m31) (Al ts) := Ai.decL (okE _ _) v30 (d := d30 E0) (fun x => Am lt rfl x) c30 rfl (by kernel_rfl)
theorem v32 [Ap] : Ai (EF m32) (Al ts) := Ai.decL (okE _ _) v31 (d := d31 E0) (fun x => Am lt rfl x) c31 rfl (by kernel_rfl)
theorem v33 [Ap] : Ai (EF m33) (Al ts) := Ai.decL (okE _ _) v32 (d := d32 E0) (fun x => Am lt rfl x) c32 rfl (by kernel_rfl)
theorem v34 [Ap] : Ai (EF m34) (Al ts) := Ai.decL (okE _ _) v33 (d := d33 E0) (fun x => Am lt rfl x) c33 rfl (by kernel_rfl)
theorem v35 [Ap] : Ai (EF m35) (Al ts) := Ai.decL (okE _ _) v34 (d := d34 E0) (fun x => Am lt rfl x) c34 rfl (by kernel_rfl)
theorem v36 [Ap] : Ai (EF m36) (Al ts) := Ai.decL (okE _ _) v35 (d := d35 E0) (fun x => Am lt rfl x) c35 rfl (by kernel_rfl)
theorem v37 [Ap] : Ai (EF m37) (Al ts) := Ai.decL (okE _ _) v36 (d := d36 E0) (fun x => Am lt rfl x) c36 rfl (by kernel_rfl)
theorem v38 [Ap] : Ai (EF m38) (Al ts) := Ai.decL (okE _ _) v37 (d := d37 E0) (fun x => Am lt rfl x) c37 rfl (by kernel_rfl)
theorem v39 [Ap] : Ai (EF m39) (Al ts) := Ai.decL (okE _ _) v38 (d := d38 E0) (fun x => Am lt rfl x) c38 rfl (by kernel_rfl)
theorem v40 [Ap] : Ai (EF m40) (Al ts) := Ai.decL (okE _ _) v39 (d := d39 E0) (fun x => Am lt rfl x) c39 rfl (by kernel_rfl)
theorem v41 [Ap] : Ai (EF m41) (Al ts) := Ai.decL (okE _ _) v40 (d := d40 E0) (fun x => Am lt rfl x) c40 rfl (by kernel_rfl)
theorem v42 [Ap] : Ai (EF m42) (Al ts) := Ai.decL (okE _ _) v41 (d := d41 E0) (fun x => Am lt rfl x) c41 rfl (by kernel_rfl)
theorem v43 [Ap] : Ai (EF m43) (Al ts) := Ai.decL (okE _ _) v42 (d := d42 E0) (fun x => Am lt rfl x) c42 rfl (by kernel_rfl)
theorem v44 [Ap] : Ai (EF m44) (Al ts) := Ai.decL (okE _ _) v43 (d := d43 E0) (fun x => Am lt rfl x) c43 rfl (by kernel_rfl)
theorem v45 [Ap] : Ai (EF m45) (Al ts) := Ai.decL (okE _ _) v44 (d := d44 E0) (fun x => Am lt rfl x) c44 rfl (by kernel_rfl)
theorem v46 [Ap] : Ai (EF m46) (Al ts) := Ai.decL (okE _ _) v45 (d := d45 E0) (fun x => Am lt rfl x) c45 rfl (by kernel_rfl)
theorem v47 [Ap] : Ai (EF m47) (Al ts) := Ai.decL (okE _ _) v46 (d := d46 E0) (fun x => Am lt rfl x) c46 rfl (by kernel_rfl)
theorem v48 [Ap] : Ai (EF m48) (Al ts) := Ai.decL (okE _ _) v47 (d := d47 E0) (fun x => Am lt rfl x) c47 rfl (by kernel_rfl)
theorem v49 [Ap] : Ai (EF m49) (Al ts) := Ai.decL (okE _ _) v48 (d := d48 E0) (fun x => Am lt rfl x) c48 rfl (by kernel_rfl)
theorem v50 [Ap] : Ai (EF m50) (Al ts) := Ai.decL (okE _ _) v49 (d := d49 E0) (fun x => Am lt rfl x) c49 rfl (by kernel_rfl)
theorem v51 [Ap] : Ai (EF m51) (Al ts) := Ai.decL (okE _ _) v50 (d := d50 E0) (fun x => Am lt rfl x) c50 rfl (by kernel_rfl)
theorem v52 [Ap] : Ai (EF m52) (Al ts) := Ai.decL (okE _ _) v51 (d := d51 E0) (fun x => Am lt rfl x) c51 rfl (by kernel_rfl)
theorem v53 [Ap] : Ai (EF m53) (Al ts) := Ai.decL (okE _ _) v52 (d := d52 E0) (fun x => Am lt rfl x) c52 rfl (by kernel_rfl)
theorem v54 [Ap] : Ai (EF m54) (Al ts) := Ai.decL (okE _ _) v53 (d := d53 E0) (fun x => Am lt rfl x) c53 rfl (by kernel_rfl)
theorem v55 [Ap] : Ai (EF m55) (Al ts) := Ai.decL (okE _ _) v54 (d := d54 E0) (fun x => Am lt rfl x) c54 rfl (by kernel_rfl)
theorem v56 [Ap] : Ai (EF m56) (Al ts) := Ai.decL (okE _ _) v55 (d := d55 E0) (fun x => Am lt rfl x) c55 rfl (by kernel_rfl)
theorem v57 [Ap] : Ai (EF m57) (Al ts) := Ai.decL (okE _ _) v56 (d := d56 E0) (fun x => Am lt rfl x) c56 rfl (by kernel_rfl)
theorem v58 [Ap] : Ai (EF m58) (Al ts) := Ai.decL (okE _ _) v57 (d := d57 E0) (fun x => Am lt rfl x) c57 rfl (by kernel_rfl)
theorem v59 [Ap] : Ai (EF m59) (Al ts) := Ai.decL (okE _ _) v58 (d := d58 E0) (fun x => Am lt rfl x) c58 rfl (by kernel_rfl)
theorem v60 [Ap] : Ai (EF m60) (Al ts) := Ai.decL (okE _ _) v59 (d := d59 E0) (fun x => Am lt rfl x) c59 rfl (by kernel_rfl)
theorem v61 [Ap] : Ai (EF m61) (Al ts) := Ai.decL (okE _ _) v60 (d := d60 E0) (fun x => Am lt rfl x) c60 rfl (by kernel_rfl)
theorem v62 [Ap] : Ai (EF m62) (Al ts) := Ai.decL (okE _ _) v61 (d := d61 E0) (fun x => Am lt rfl x) c61 rfl (by kernel_rfl)
theorem v63 [Ap] : Ai (EF m63) (Al ts) := Ai.decL (okE _ _) v62 (d := d62 E0) (fun x => Am lt rfl x) c62 rfl (by kernel_rfl)
theorem v64 [Ap] : Ai (EF m64) (Al ts) := Ai.decL (okE _ _) v63 (d := d63 E0) (fun x => Am lt rfl x) c63 rfl (by kernel_rfl)
theorem v65 [Ap] : Ai (EF m65) (Al ts) := Ai.decL (okE _ _) v64 (d := d64 E0) (fun x => Am lt rfl x) c64 rfl (by kernel_rfl)
theorem v66 [Ap] : Ai (EF m66) (Al ts) := Ai.decL (okE _ _) v65 (d := d65 E0) (fun x => Am lt rfl x) c65 rfl (by kernel_rfl)
theorem v67 [Ap] : Ai (EF m67) (Al ts) := Ai.decL (okE _ _) v66 (d := d66 E0) (fun x => Am lt rfl x) c66 rfl (by kernel_rfl)
theorem v68 [Ap] : Ai (EF m68) (Al ts) := Ai.decL (okE _ _) v67 (d := d67 E0) (fun x => Am lt rfl x) c67 rfl (by kernel_rfl)
theorem v69 [Ap] : Ai (EF m69) (Al ts) := Ai.decL (okE _ _) v68 (d := d68 E0) (fun x => Am lt rfl x) c68 rfl (by kernel_rfl)
theorem v70 [Ap] : Ai (EF m70) (Al ts) := Ai.decL (okE _ _) v69 (d := d69 E0) (fun x => Am lt rfl x) c69 rfl (by kernel_rfl)
theorem v71 [Ap] : Ai (EF m71) (Al ts) := Ai.decL (okE _ _) v70 (d := d70 E0) (fun x => Am lt rfl x) c70 rfl (by kernel_rfl)
theorem v72 [Ap] : Ai (EF m72) (Al ts) := Ai.decL (okE _ _) v71 (d := d71 E0) (fun x => Am lt rfl x) c71 rfl (by kernel_rfl)
theorem readable : ∀ t ∈ Tryz.f5.params.toList, Tryz.prog.readableRec t = true ∧ t < Tryz.prog.types.size := by
 have h : (Tryz.f5.params.toList.all fun t => Tryz.prog.readableRec t && decide (t < Tryz.prog.types.size)) = true := by kernel_rfl
 intro t ht;have q := List.all_eq_true.mp h t ht;rw [Bool.and_eq_true, decide_eq_true_eq] at q;exact q
theorem says (H : Type) (ds : List (DataW H)) (hl : ds.length = Tryz.f5.params.toList.length) : Rows.machineOwnsSpec.fn H ds = { results := [.lit (.bool true)], args := ds } := by
 have e : Tryz.f5.params.toList.length = 2 := by kernel_rfl
 rw [e] at hl;rcases ds with _ | ⟨d0, _ | ⟨d1, _ | ⟨d2, r⟩⟩⟩ <;> first | rfl | (simp only [List.length_cons, List.length_nil] at hl; omega)
theorem plain [Ap] (xs : List D) (h : HY Tryz.prog Tryz.f5.params.toList xs) : Al ts 72 (.row (.int 0 :: xs)) = .row [.int 1, .bool true] := by
 obtain ⟨hl, hc⟩ := Vx (ks := [.str, .slice 63, .slice 65, .slice 68, .slice 44]) h (by kernel_rfl)
 have K63 : (Env.of Tryz.prog).kinds 63 = some [.str, .bool, .int .i64] := by kernel_rfl
 have K65 : (Env.of Tryz.prog).kinds 65 = some [.str, .int .i64] := by kernel_rfl
 have K68 : (Env.of Tryz.prog).kinds 68 = some [.str, .str, .int .i64, .str, .str, .str, .int .i64, .int .i64, .int .i64] := by kernel_rfl
 have K44 : (Env.of Tryz.prog).kinds 44 = some [.int .i64, .int .i64, .int .i64, .str, .str] := by kernel_rfl
 match xs, hl, hc with
 | [v0, v1, v2, v3, v4], _, hc =>
  have h1 : FH (Env.of Tryz.prog).kinds 9 (.slice 63) v1 := hc 1 _ rfl;have h2 : FH (Env.of Tryz.prog).kinds 9 (.slice 65) v2 := hc 2 _ rfl;have h3 : FH (Env.of Tryz.prog).kinds 9 (.slice 68) v3 := hc 3 _ rfl;have h4 : FH (Env.of Tryz.prog).kinds 9 (.slice 44) v4 := hc 4 _ rfl
  exact law (fun i hi => ⟨(h3.cell (i := (i : Int)) (j := 2) K68 (by omega) (by omega) rfl).toI, (h3.cell (i := (i : Int)) (j := 6) K68 (by omega) (by omega) rfl).toI, (h3.cell (i := (i : Int)) (j := 7) K68 (by omega) (by omega) rfl).toI, (h3.cell (i := (i : Int)) (j := 8) K68 (by omega) (by omega) rfl).toI⟩)
   (fun i hi => by
    obtain ⟨b, hb⟩ := (h1.cell (i := (i : Int)) (j := 1) K63 (by omega) (by omega) rfl).toB
    obtain ⟨w, hw⟩ := (h1.cell (i := (i : Int)) (j := 2) K63 (by omega) (by omega) rfl).toI
    exact ⟨b, w, hb, hw⟩)
   (fun i hi => (h2.cell (i := (i : Int)) (j := 1) K65 (by omega) (by omega) rfl).toI)
   (fun i hi => ⟨(h4.cell (i := (i : Int)) (j := 0) K44 (by omega) (by omega) rfl).toI, (h4.cell (i := (i : Int)) (j := 1) K44 (by omega) (by omega) rfl).toI, (h4.cell (i := (i : Int)) (j := 2) K44 (by omega) (by omega) rfl).toI⟩)
theorem lifted (os : Os) (started : os.Started) (H : Type) (enc : TypeId × Value → H) :
  ReturnsInHanded {} Tryz.checked os 5 .any (Rows.machineOwnsSpec.pre6 enc Tryz.prog Tryz.f5 Rows.machineOwnsRow.domain false) (Rows.machineOwnsSpec.post enc Tryz.prog Tryz.f5 false true false false) := by
 obtain ⟨inst⟩ := Vd
 exact JM (C := Tryz.checked) (d := d72 E0) (T := t72) (keys := [14, 18, 22, 28]) (N := 20000) (tb := 4) (L := [63, 65, 68, 44]) own started (by kernel_rfl) Tryz.func5
  (ChangeSpec.witness6 (enc := enc) (C := Tryz.checked) false ⟨#[], #[.agg #[.string .empty, .slice none 0 0, .slice none 0 0, .slice none 0 0], .slice none 0 0], []⟩ 8 (by kernel_rfl) (by kernel_rfl) (by kernel_rfl) (by kernel_rfl))
  (by kernel_rfl) readable rfl (says H) (by kernel_rfl) (by kernel_rfl) (okE _ _) v72 (fun x => Am lt rfl x) c72.chk (by kernel_rfl) rfl (by kernel_rfl) plain
theorem over : Rows.machineOwnsRow.holds Tryz.pinned (OpenSpec.ofChange Rows.machineOwnsSpec) :=
 OpenClaim.holds_of_wide 5 Tryz.f5 rfl rfl rfl rfl rfl rfl rfl ⟨rfl, rfl, rfl, rfl, rfl⟩ rfl rfl rfl rfl rfl (by kernel_rfl) Tryz.func5 (by kernel_rfl)
  (of_decide_eq_true (by kernel_rfl)) (by unfold Func.isWrapper; first | (rw [if_pos (by decide +kernel)]; kernel_rfl) | (rw [if_neg (by decide +kernel)]; exact ⟨rfl, rfl⟩))
  (fun os started H enc _ => lifted os started H enc)
theorem proved : Rows.MachineOwnsSaid := over
end Go.Proofs.YthkffgljlhjggaaGreat.machineOwns

