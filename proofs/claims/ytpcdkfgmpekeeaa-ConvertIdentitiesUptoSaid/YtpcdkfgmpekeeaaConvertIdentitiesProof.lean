/- What is proved: the given statement Rows.ConvertIdentitiesUptoSaid: at every input of bulk at most 1048576 the law ConvertIdentities returns true and leaves what its arguments reach as it was. Conditions: none beyond those that the given row itself states. The road: the functions that the law reaches are turned into plain functions over data, which the kernel checks; the plain law is proved of those. -/
import Derived.Test.YtpcdkfgmpekeeaaRows
import Derived.Test.YtpcdkfgmpekeeaaChecked
import Derived.Test.YtpcdkfgmpekeeaaConvertIdentitiesDec
import Derived.Test.YtpcdkfgmpekeeaaConvertIdentitiesPlain
import Derived.KernelRfl
import Derived.JoinedCond
import Derived.Handed
set_option linter.unusedVariables false
set_option linter.unusedSectionVars false
set_option linter.unusedSimpArgs false
namespace Go.Proofs.Ytpcdkfgmpekeeaa.convertIdentities
open Go.AE Ci
theorem own : ownKnob Try.prog.godebug = none := by kernel_rfl
theorem v0 [Ap] : Af (EF m0) (An ts) := (w27) (An ts)
theorem v1 [Ap] : Af (EF m1) (An ts) := Af.decL (okE _ _) v0 (d := d0 E0) (fun x => Ar lt rfl x) c0 rfl (by kernel_rfl)
theorem v2 [Ap] : Af (EF m2) (An ts) := Af.decL (okE _ _) v1 (d := d1 E0) (fun x => Ar lt rfl x) c1 rfl (by kernel_rfl)
theorem v3 [Ap] : Af (EF m3) (An ts) := Af.decL (okE _ _) v2 (d := d2 E0) (fun x => Ar lt rfl x) c2 rfl (by kernel_rfl)
theorem v4 [Ap] : Af (EF m4) (An ts) := Af.decL (okE _ _) v3 (d := d3 E0) (fun x => Ar lt rfl x) c3 rfl (by kernel_rfl)
theorem v5 [Ap] : Af (EF m5) (An ts) := Af.decL (okE _ _) v4 (d := d4 E0) (fun x => Ar lt rfl x) c4 rfl (by kernel_rfl)
theorem v6 [Ap] : Af (EF m6) (An ts) := Af.decL (okE _ _) v5 (d := d5 E0) (fun x => Ar lt rfl x) c5 rfl (by kernel_rfl)
theorem v7 [Ap] : Af (EF m7) (An ts) := Af.decL (okE _ _) v6 (d := d6 E0) (fun x => Ar lt rfl x) c6 rfl (by kernel_rfl)
theorem v8 [Ap] : Af (EF m8) (An ts) := Af.decL (okE _ _) v7 (d := d7 E0) (fun x => Ar lt rfl x) c7 rfl (by kernel_rfl)
theorem v9 [Ap] : Af (EF m9) (An ts) := Af.decL (okE _ _) v8 (d := d8 E0) (fun x => Ar lt rfl x) c8 rfl (by kernel_rfl)
theorem v10 [Ap] : Af (EF m10) (An ts) := Af.decL (okE _ _) v9 (d := d9 E0) (fun x => Ar lt rfl x) c9 rfl (by kernel_rfl)
theorem v11 [Ap] : Af (EF m11) (An ts) := Af.decL (okE _ _) v10 (d := d10 E0) (fun x => Ar lt rfl x) c10 rfl (by kernel_rfl)
theorem v12 [Ap] : Af (EF m12) (An ts) := Af.decL (okE _ _) v11 (d := d11 E0) (fun x => Ar lt rfl x) c11 rfl (by kernel_rfl)
theorem v13 [Ap] : Af (EF m13) (An ts) := Af.decL (okE _ _) v12 (d := d12 E0) (fun x => Ar lt rfl x) c12 rfl (by kernel_rfl)
theorem v14 [Ap] : Af (EF m14) (An ts) := Af.decL (okE _ _) v13 (d := d13 E0) (fun x => Ar lt rfl x) c13 rfl (by kernel_rfl)
theorem v15 [Ap] : Af (EF m15) (An ts) := Af.decL (okE _ _) v14 (d := d14 E0) (fun x => Ar lt rfl x) c14 rfl (by kernel_rfl)
theorem v16 [Ap] : Af (EF m16) (An ts) := Af.decL (okE _ _) v15 (d := d15 E0) (fun x => Ar lt rfl x) c15 rfl (by kernel_rfl)
theorem v17 [Ap] : Af (EF m17) (An ts) := Af.decL (okE _ _) v16 (d := d16 E0) (fun x => Ar lt rfl x) c16 rfl (by kernel_rfl)
theorem v18 [Ap] : Af (EF m18) (An ts) := Af.decL (okE _ _) v17 (d := d17 E0) (fun x => Ar lt rfl x) c17 rfl (by kernel_rfl)
theorem v19 [Ap] : Af (EF m19) (An ts) := Af.decL (okE _ _) v18 (d := d18 E0) (fun x => Ar lt rfl x) c18 rfl (by kernel_rfl)
theorem v20 [Ap] : Af (EF m20) (An ts) := Af.decL (okE _ _) v19 (d := d19 E0) (fun x => Ar lt rfl x) c19 rfl (by kernel_rfl)
theorem v21 [Ap] : Af (EF m21) (An ts) := Af.decL (okE _ _) v20 (d := d20 E0) (fun x => Ar lt rfl x) c20 rfl (by kernel_rfl)
theorem v22 [Ap] : Af (EF m22) (An ts) := Af.decL (okE _ _) v21 (d := d21 E0) (fun x => Ar lt rfl x) c21 rfl (by kernel_rfl)
theorem v23 [Ap] : Af (EF m23) (An ts) := Af.decL (okE _ _) v22 (d := d22 E0) (fun x => Ar lt rfl x) c22 rfl (by kernel_rfl)
theorem v24 [Ap] : Af (EF m24) (An ts) := Af.decL (okE _ _) v23 (d := d23 E0) (fun x => Ar lt rfl x) c23 rfl (by kernel_rfl)
theorem v25 [Ap] : Af (EF m25) (An ts) := Af.decL (okE _ _) v24 (d := d24 E0) (fun x => Ar lt rfl x) c24 rfl (by kernel_rfl)
theorem v26 [Ap] : Af (EF m26) (An ts) := Af.decL (okE _ _) v25 (d := d25 E0) (fun x => Ar lt rfl x) c25 rfl (by kernel_rfl)
theorem v27 [Ap] : Af (EF m27) (An ts) := Af.decL (okE _ _) v26 (d := d26 E0) (fun x => Ar lt rfl x) c26 rfl (by kernel_rfl)
theorem v28 [Ap] : Af (EF m28) (An ts) := Af.decL (okE _ _) v27 (d := d27 E0) (fun x => Ar lt rfl x) c27 rfl (by kernel_rfl)
theorem v29 [Ap] : Af (EF m29) (An ts) := Af.decL (okE _ _) v28 (d := d28 E0) (fun x => Ar lt rfl x) c28 rfl (by kernel_rfl)
theorem v30 [Ap] : Af (EF m30) (An ts) := Af.decL (okE _ _) v29 (d := d29 E0) (fun x => Ar lt rfl x) c29 rfl (by kernel_rfl)
theorem v31 [Ap] : Af (EF m31) (An ts) := Af.decL (okE _ _) v30 (d := d30 E0) (fun x => Ar lt rfl x) c30 rfl (by kernel_rfl)
theorem v32 [Ap] : Af (EF m32) (An ts) := Af.decL (okE _ _) v31 (d := d31 E0) (fun x => Ar lt rfl x) c31 rfl (by kernel_rfl)
theorem v33 [Ap] : Af (EF m33) (An ts) := Af.decL (okE _ _) v32 (d := d32 E0) (fun x => Ar lt rfl x) c32 rfl (by kernel_rfl)
theorem v34 [Ap] : Af (EF m34) (An ts) := Af.decL (okE _ _) v33 (d := d33 E0) (fun x => Ar lt rfl x) c33 rfl (by kernel_rfl)
theorem v35 [Ap] : Af (EF m35) (An ts) := Af.decL (okE _ _) v34 (d := d34 E0) (fun x => Ar lt rfl x) c34 rfl (by kernel_rfl)
theorem v36 [Ap] : Af (EF m36) (An ts) := Af.decL (okE _ _) v35 (d := d35 E0) (fun x => Ar lt rfl x) c35 rfl (by kernel_rfl)
theorem v37 [Ap] : Af (EF m37) (An ts) := Af.decL (okE _ _) v36 (d := d36 E0) (fun x => Ar lt rfl x) c36 rfl (by kernel_rfl)
theorem v38 [Ap] : Af (EF m38) (An ts) := Af.decL (okE _ _) v37 (d := d37 E0) (fun x => Ar lt rfl x) c37 rfl (by kernel_rfl)
theorem v39 [Ap] : Af (EF m39) (An ts) := Af.decL (okE _ _) v38 (d := d38 E0) (fun x => Ar lt rfl x) c38 rfl (by kernel_rfl)
theorem v40 [Ap] : Af (EF m40) (An ts) := Af.decL (okE _ _) v39 (d := d39 E0) (fun x => Ar lt rfl x) c39 rfl (by kernel_rfl)
theorem v41 [Ap] : Af (EF m41) (An ts) := Af.decL (okE _ _) v40 (d := d40 E0) (fun x => Ar lt rfl x) c40 rfl (by kernel_rfl)
theorem v42 [Ap] : Af (EF m42) (An ts) := Af.decL (okE _ _) v41 (d := d41 E0) (fun x => Ar lt rfl x) c41 rfl (by kernel_rfl)
theorem v43 [Ap] : Af (EF m43) (An ts) := Af.decL (okE _ _) v42 (d := d42 E0) (fun x => Ar lt rfl x) c42 rfl (by kernel_rfl)
theorem v44 [Ap] : Af (EF m44) (An ts) := Af.decL (okE _ _) v43 (d := d43 E0) (fun x => Ar lt rfl x) c43 rfl (by kernel_rfl)
theorem v45 [Ap] : Af (EF m45) (An ts) := Af.decL (okE _ _) v44 (d := d44 E0) (fun x => Ar lt rfl x) c44 rfl (by kernel_rfl)
theorem v46 [Ap] : Af (EF m46) (An ts) := Af.decL (okE _ _) v45 (d := d45 E0) (fun x => Ar lt rfl x) c45 rfl (by kernel_rfl)
theorem v47 [Ap] : Af (EF m47) (An ts) := Af.decL (okE _ _) v46 (d := d46 E0) (fun x => Ar lt rfl x) c46 rfl (by kernel_rfl)
theorem readable : ∀ t ∈ Try.f6.params.toList, Try.prog.readableRec t = true ∧ t < Try.prog.types.size := by
 have h : (Try.f6.params.toList.all fun t => Try.prog.readableRec t && decide (t < Try.prog.types.size)) = true := by kernel_rfl
 intro t ht;have q := List.all_eq_true.mp h t ht;rw [Bool.and_eq_true, decide_eq_true_eq] at q;exact q
theorem says (F : Stop.Interp) (H : Type) (ds : List (DataW H)) (hl : ds.length = Try.f6.params.toList.length) : ((Rows.OpenSpec.upto Rows.convertIdentitiesSpec).at F).fn H ds = { results := [.lit (.bool true)], args := ds } := by
 have e : Try.f6.params.toList.length = 1 := by kernel_rfl
 rw [e] at hl;rcases ds with _ | ⟨d0, _ | ⟨d1, r⟩⟩ <;> first | rfl | (simp only [List.length_cons, List.length_nil] at hl; omega)
theorem Wa {H : Type} : ∀ d : DataW H, 1 ≤ Rows.uptoBulk d
 | .lit (.string _) => by simp [Rows.uptoBulk]
 | .lit (.bool _) => by simp [Rows.uptoBulk]
 | .lit (.int _ _) => by simp [Rows.uptoBulk]
 | .lit (.float _ _) => by simp [Rows.uptoBulk]
 | .lit .nil => by simp [Rows.uptoBulk]
 | .nil => by simp [Rows.uptoBulk]
 | .ptr _ => by simp [Rows.uptoBulk]
 | .slice _ _ => by simp [Rows.uptoBulk]
 | .agg _ => by simp [Rows.uptoBulk]
 | .iface _ _ => by simp [Rows.uptoBulk]
 | .map _ => by simp [Rows.uptoBulk]
 | .held _ => by simp [Rows.uptoBulk]
theorem Rm {H : Type} : ∀ ds : List (DataW H), ds.length ≤ Rows.uptoBulkAll ds
 | [] => Nat.zero_le _
 | d :: r => by
  have := Wa d;have := Rm r;simp only [Rows.uptoBulkAll, List.length_cons];omega
mutual
theorem X4 {H : Type} {b : Nat} : ∀ d : DataW H, Rows.uptoBulk d ≤ b → AJ (some b) d
 | .lit (.string bytes), h => by
  rw [AJ];intro c e;cases e;simp only [Rows.uptoBulk] at h;omega
 | .lit (.bool _), _ => by simp [AJ]
 | .lit (.int _ _), _ => by simp [AJ]
 | .lit (.float _ _), _ => by simp [AJ]
 | .lit .nil, _ => by simp [AJ]
 | .nil, _ => by simp [AJ]
 | .ptr _, _ => by simp [AJ]
 | .slice elems _, h => by
  rw [AJ];simp only [Rows.uptoBulk] at h;exact ⟨fun c e => (by cases e; have := Rm elems; omega), MG elems (by omega)⟩
 | .agg parts, h => by
  rw [AJ];simp only [Rows.uptoBulk] at h;exact MG parts (by omega)
 | .iface _ _, _ => by simp [AJ]
 | .map _, _ => by simp [AJ]
 | .held _, _ => by simp [AJ]
theorem MG {H : Type} {b : Nat} : ∀ ds : List (DataW H), Rows.uptoBulkAll ds ≤ b → Bb (some b) ds
 | [], _ => by simp [Bb]
 | d :: r, h => by
  rw [Bb];simp only [Rows.uptoBulkAll] at h;exact ⟨X4 d (by omega), MG r (by omega)⟩
end
theorem plain [Ap] (xs : List D) (h : Gm (some 1048576) Try.prog Try.f6.params.toList xs) : An ts 47 (.row (.int 0 :: xs)) = .row [.int 1, .bool true] := by
 obtain ⟨hl, hc, hs⟩ := X9 (ks := [.str, .slice 75, .slice 69, .slice 64]) h (by kernel_rfl)
 have K64 : (Env.of Try.prog).kinds 64 = some [.str, .str, .int .i64, .str, .str, .str, .int .i64, .int .i64, .int .i64] := by kernel_rfl
 have K69 : (Env.of Try.prog).kinds 69 = some [.str, .int .i64] := by kernel_rfl
 match xs, hl, hc, hs with
 | [v0, v1, v2, v3], _, hc, hs =>
  have S : ∀ v : D, GI (Env.of Try.prog).kinds 9 (.slice 64) v → ShK (Env.of Try.prog).kinds (some 1048576) 9 (.slice 64) v → Cg v := fun v hb hd i hi =>
   ⟨(hb.cell (i := (i : Int)) (j := 2) K64 (by omega) (by omega) rfl).toI, (hb.cell (i := (i : Int)) (j := 6) K64 (by omega) (by omega) rfl).toI, (hb.cell (i := (i : Int)) (j := 7) K64 (by omega) (by omega) rfl).toI, (hb.cell (i := (i : Int)) (j := 8) K64 (by omega) (by omega) rfl).toI,
    by have := (hd.cell (j := 3) K64 hi rfl).text; omega, by have := (hd.cell (j := 4) K64 hi rfl).text; omega⟩
  have h2 : GI (Env.of Try.prog).kinds 9 (.slice 69) v2 := hc 2 _ rfl;have s2 : ShK (Env.of Try.prog).kinds (some 1048576) 9 (.slice 69) v2 := hs 2 _ rfl;exact law (S v3 (hc 3 _ rfl) (hs 3 _ rfl)) (fun i hi => (h2.cell (i := (i : Int)) (j := 1) K69 (by omega) (by omega) rfl).toI) (by have := s2.rows; omega)
theorem lifted (os : Os) (started : os.Started) (H : Type) (enc : TypeId × Value → H) (F : Stop.Interp) :
  ReturnsInHanded {} Try.checked os 6 .any ((Rows.OpenSpec.upto Rows.convertIdentitiesSpec).pre6 enc Try.prog Try.f6 Rows.convertIdentitiesUptoRow.domain false) (((Rows.OpenSpec.upto Rows.convertIdentitiesSpec).at F).post enc Try.prog Try.f6 false true false false) := by
 obtain ⟨inst⟩ := UP
 exact RN (C := Try.checked) (s := Rows.OpenSpec.upto Rows.convertIdentitiesSpec) (k := Rows.uptoSmall) rfl (o := some 1048576) (d := d47 E0) (T := t47) (keys := [3, 14, 19, 24, 27]) (N := 20000) (tb := 4) (L := [75, 69, 64]) (fun ds h => MG ds (of_decide_eq_true h)) own started (by kernel_rfl) Try.func6
  (OpenSpec.witness (enc := enc) (C := Try.checked) (s := Rows.OpenSpec.upto Rows.convertIdentitiesSpec) (k := Rows.uptoSmall) rfl false ⟨#[], #[.agg #[.string .empty, .slice none 0 0, .slice none 0 0, .slice none 0 0]], []⟩ 8 (by kernel_rfl) (by kernel_rfl) (by kernel_rfl)
   (x := ([.agg [.lit (.string []), .nil, .nil, .nil]], [], [])) (by kernel_rfl) (by kernel_rfl) (by kernel_rfl))
  (by kernel_rfl) readable rfl rfl (says F H) (by kernel_rfl) (by kernel_rfl) (okE _ _) v47 (fun x => Ar lt rfl x) c47.chk (by kernel_rfl) rfl (by kernel_rfl) plain
theorem over : Rows.convertIdentitiesUptoRow.holds Try.pinned (Rows.OpenSpec.upto Rows.convertIdentitiesSpec) :=
 OpenClaim.holds_of_cond 6 Try.f6 rfl rfl rfl rfl rfl rfl rfl ⟨rfl, rfl, rfl, rfl, rfl⟩ rfl rfl rfl rfl rfl (by kernel_rfl) Try.func6 (by kernel_rfl)
  (of_decide_eq_true (by kernel_rfl)) (by unfold Func.isWrapper; first | (rw [if_pos (by decide +kernel)]; kernel_rfl) | (rw [if_neg (by decide +kernel)]; exact ⟨rfl, rfl⟩))
  (fun os started H enc _ F => lifted os started H enc F)
theorem proved : Rows.ConvertIdentitiesUptoSaid := over
end Go.Proofs.Ytpcdkfgmpekeeaa.convertIdentities

