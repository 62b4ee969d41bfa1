/- What is proved: the given statement Rows.ConvertReplacesUptoSaid: at every input of bulk at most 1048576 the law ConvertReplaces returns true and leaves what its arguments reach as it was. Conditions: none beyond those that the given row itself states. The road: the functions that the law reaches are turned into plain functions over data, which the kernel checks; the plain law is proved of those. -/
import Derived.Test.YtpcdkfgmpekeeaaRows
import Derived.Test.YtpcdkfgmpekeeaaChecked
import Derived.Test.YtpcdkfgmpekeeaaConvertReplacesDec
import Derived.Test.YtpcdkfgmpekeeaaConvertReplacesPlain
import Derived.KernelRfl
import Derived.JoinedCond
import Derived.Handed
set_option linter.unusedVariables false
set_option linter.unusedSectionVars false
set_option linter.unusedSimpArgs false
namespace Go.Proofs.Ytpcdkfgmpekeeaa.convertReplaces
open Go.AE Ct
theorem own : ownKnob Try.prog.godebug = none := by kernel_rfl
theorem v0 [An] : Af (EF m0) (Ap ts) := (w27) (Ap ts)
theorem v1 [An] : Af (EF m1) (Ap ts) := Af.decL (okE _ _) v0 (d := d0 E0) (fun x => Ar lt rfl x) c0 rfl (by kernel_rfl)
theorem v2 [An] : Af (EF m2) (Ap ts) := Af.decL (okE _ _) v1 (d := d1 E0) (fun x => Ar lt rfl x) c1 rfl (by kernel_rfl)
theorem v3 [An] : Af (EF m3) (Ap ts) := Af.decL (okE _ _) v2 (d := d2 E0) (fun x => Ar lt rfl x) c2 rfl (by kernel_rfl)
theorem v4 [An] : Af (EF m4) (Ap ts) := Af.decL (okE _ _) v3 (d := d3 E0) (fun x => Ar lt rfl x) c3 rfl (by kernel_rfl)
theorem v5 [An] : Af (EF m5) (Ap ts) := Af.decL (okE _ _) v4 (d := d4 E0) (fun x => Ar lt rfl x) c4 rfl (by kernel_rfl)
theorem v6 [An] : Af (EF m6) (Ap ts) := Af.decL (okE _ _) v5 (d := d5 E0) (fun x => Ar lt rfl x) c5 rfl (by kernel_rfl)
theorem v7 [An] : Af (EF m7) (Ap ts) := Af.decL (okE _ _) v6 (d := d6 E0) (fun x => Ar lt rfl x) c6 rfl (by kernel_rfl)
theorem v8 [An] : Af (EF m8) (Ap ts) := Af.decL (okE _ _) v7 (d := d7 E0) (fun x => Ar lt rfl x) c7 rfl (by kernel_rfl)
theorem v9 [An] : Af (EF m9) (Ap ts) := Af.decL (okE _ _) v8 (d := d8 E0) (fun x => Ar lt rfl x) c8 rfl (by kernel_rfl)
theorem v10 [An] : Af (EF m10) (Ap ts) := Af.decL (okE _ _) v9 (d := d9 E0) (fun x => Ar lt rfl x) c9 rfl (by kernel_rfl)
theorem v11 [An] : Af (EF m11) (Ap ts) := Af.decL (okE _ _) v10 (d := d10 E0) (fun x => Ar lt rfl x) c10 rfl (by kernel_rfl)
theorem v12 [An] : Af (EF m12) (Ap ts) := Af.decL (okE _ _) v11 (d := d11 E0) (fun x => Ar lt rfl x) c11 rfl (by kernel_rfl)
theorem v13 [An] : Af (EF m13) (Ap ts) := Af.decL (okE _ _) v12 (d := d12 E0) (fun x => Ar lt rfl x) c12 rfl (by kernel_rfl)
theorem v14 [An] : Af (EF m14) (Ap ts) := Af.decL (okE _ _) v13 (d := d13 E0) (fun x => Ar lt rfl x) c13 rfl (by kernel_rfl)
theorem v15 [An] : Af (EF m15) (Ap ts) := Af.decL (okE _ _) v14 (d := d14 E0) (fun x => Ar lt rfl x) c14 rfl (by kernel_rfl)
theorem v16 [An] : Af (EF m16) (Ap ts) := Af.decL (okE _ _) v15 (d := d15 E0) (fun x => Ar lt rfl x) c15 rfl (by kernel_rfl)
theorem v17 [An] : Af (EF m17) (Ap ts) := Af.decL (okE _ _) v16 (d := d16 E0) (fun x => Ar lt rfl x) c16 rfl (by kernel_rfl)
theorem v18 [An] : Af (EF m18) (Ap ts) := Af.decL (okE _ _) v17 (d := d17 E0) (fun x => Ar lt rfl x) c17 rfl (by kernel_rfl)
theorem v19 [An] : Af (EF m19) (Ap ts) := Af.decL (okE _ _) v18 (d := d18 E0) (fun x => Ar lt rfl x) c18 rfl (by kernel_rfl)
theorem v20 [An] : Af (EF m20) (Ap ts) := Af.decL (okE _ _) v19 (d := d19 E0) (fun x => Ar lt rfl x) c19 rfl (by kernel_rfl)
theorem v21 [An] : Af (EF m21) (Ap ts) := Af.decL (okE _ _) v20 (d := d20 E0) (fun x => Ar lt rfl x) c20 rfl (by kernel_rfl)
theorem v22 [An] : Af (EF m22) (Ap ts) := Af.decL (okE _ _) v21 (d := d21 E0) (fun x => Ar lt rfl x) c21 rfl (by kernel_rfl)
theorem v23 [An] : Af (EF m23) (Ap ts) := Af.decL (okE _ _) v22 (d := d22 E0) (fun x => Ar lt rfl x) c22 rfl (by kernel_rfl)
theorem v24 [An] : Af (EF m24) (Ap ts) := Af.decL (okE _ _) v23 (d := d23 E0) (fun x => Ar lt rfl x) c23 rfl (by kernel_rfl)
theorem v25 [An] : Af (EF m25) (Ap ts) := Af.decL (okE _ _) v24 (d := d24 E0) (fun x => Ar lt rfl x) c24 rfl (by kernel_rfl)
theorem v26 [An] : Af (EF m26) (Ap ts) := Af.decL (okE _ _) v25 (d := d25 E0) (fun x => Ar lt rfl x) c25 rfl (by kernel_rfl)
theorem v27 [An] : Af (EF m27) (Ap ts) := Af.decL (okE _ _) v26 (d := d26 E0) (fun x => Ar lt rfl x) c26 rfl (by kernel_rfl)
theorem v28 [An] : Af (EF m28) (Ap ts) := Af.decL (okE _ _) v27 (d := d27 E0) (fun x => Ar lt rfl x) c27 rfl (by kernel_rfl)
theorem v29 [An] : Af (EF m29) (Ap ts) := Af.decL (okE _ _) v28 (d := d28 E0) (fun x => Ar lt rfl x) c28 rfl (by kernel_rfl)
theorem v30 [An] : Af (EF m30) (Ap ts) := Af.decL (okE _ _) v29 (d := d29 E0) (fun x => Ar lt rfl x) c29 rfl (by kernel_rfl)
theorem v31 [An] : Af (EF m31) (Ap ts) := Af.decL (okE _ _) v30 (d := d30 E0) (fun x => Ar lt rfl x) c30 rfl (by kernel_rfl)
theorem v32 [An] : Af (EF m32) (Ap ts) := Af.decL (okE _ _) v31 (d := d31 E0) (fun x => Ar lt rfl x) c31 rfl (by kernel_rfl)
theorem v33 [An] : Af (EF m33) (Ap ts) := Af.decL (okE _ _) v32 (d := d32 E0) (fun x => Ar lt rfl x) c32 rfl (by kernel_rfl)
theorem v34 [An] : Af (EF m34) (Ap ts) := Af.decL (okE _ _) v33 (d := d33 E0) (fun x => Ar lt rfl x) c33 rfl (by kernel_rfl)
theorem v35 [An] : Af (EF m35) (Ap ts) := Af.decL (okE _ _) v34 (d := d34 E0) (fun x => Ar lt rfl x) c34 rfl (by kernel_rfl)
theorem v36 [An] : Af (EF m36) (Ap ts) := Af.decL (okE _ _) v35 (d := d35 E0) (fun x => Ar lt rfl x) c35 rfl (by kernel_rfl)
theorem v37 [An] : Af (EF m37) (Ap ts) := Af.decL (okE _ _) v36 (d := d36 E0) (fun x => Ar lt rfl x) c36 rfl (by kernel_rfl)
theorem v38 [An] : Af (EF m38) (Ap ts) := Af.decL (okE _ _) v37 (d := d37 E0) (fun x => Ar lt rfl x) c37 rfl (by kernel_rfl)
theorem v39 [An] : Af (EF m39) (Ap ts) := Af.decL (okE _ _) v38 (d := d38 E0) (fun x => Ar lt rfl x) c38 rfl (by kernel_rfl)
theorem v40 [An] : Af (EF m40) (Ap ts) := Af.decL (okE _ _) v39 (d := d39 E0) (fun x => Ar lt rfl x) c39 rfl (by kernel_rfl)
theorem v41 [An] : Af (EF m41) (Ap ts) := Af.decL (okE _ _) v40 (d := d40 E0) (fun x => Ar lt rfl x) c40 rfl (by kernel_rfl)
theorem v42 [An] : Af (EF m42) (Ap ts) := Af.decL (okE _ _) v41 (d := d41 E0) (fun x => Ar lt rfl x) c41 rfl (by kernel_rfl)
theorem v43 [An] : Af (EF m43) (Ap ts) := Af.decL (okE _ _) v42 (d := d42 E0) (fun x => Ar lt rfl x) c42 rfl (by kernel_rfl)
theorem v44 [An] : Af (EF m44) (Ap ts) := Af.decL (okE _ _) v43 (d := d43 E0) (fun x => Ar lt rfl x) c43 rfl (by kernel_rfl)
theorem v45 [An] : Af (EF m45) (Ap ts) := Af.decL (okE _ _) v44 (d := d44 E0) (fun x => Ar lt rfl x) c44 rfl (by kernel_rfl)
theorem v46 [An] : Af (EF m46) (Ap ts) := Af.decL (okE _ _) v45 (d := d45 E0) (fun x => Ar lt rfl x) c45 rfl (by kernel_rfl)
theorem v47 [An] : Af (EF m47) (Ap ts) := Af.decL (okE _ _) v46 (d := d46 E0) (fun x => Ar lt rfl x) c46 rfl (by kernel_rfl)
theorem v48 [An] : Af (EF m48) (Ap ts) := Af.decL (okE _ _) v47 (d := d47 E0) (fun x => Ar lt rfl x) c47 rfl (by kernel_rfl)
theorem v49 [An] : Af (EF m49) (Ap ts) := Af.decL (okE _ _) v48 (d := d48 E0) (fun x => Ar lt rfl x) c48 rfl (by kernel_rfl)
theorem readable : ∀ t ∈ Try.f5.params.toList, Try.prog.readableRec t = true ∧ t < Try.prog.types.size := by
 have h : (Try.f5.params.toList.all fun t => Try.prog.readableRec t && decide (t < Try.prog.types.size)) = true := by kernel_rfl
 intro t ht;have q := List.all_eq_true.mp h t ht;rw [Bool.and_eq_true, decide_eq_true_eq] at q;exact q
theorem says (F : Stop.Interp) (H : Type) (ds : List (DataW H)) (hl : ds.length = Try.f5.params.toList.length) : ((Rows.OpenSpec.upto Rows.convertReplacesSpec).at F).fn H ds = { results := [.lit (.bool true)], args := ds } := by
 have e : Try.f5.params.toList.length = 4 := by kernel_rfl
 rw [e] at hl;rcases ds with _ | ⟨d0, _ | ⟨d1, _ | ⟨d2, _ | ⟨d3, _ | ⟨d4, r⟩⟩⟩⟩⟩ <;> first | rfl | (simp only [List.length_cons, List.length_nil] at hl; omega)
theorem VU {H : Type} : ∀ d : DataW H, 1 ≤ Rows.uptoBulk d
 | .lit (.string _) => by simp [Rows.uptoBulk]
 | .lit (.bool _) => by simp [Rows.uptoBulk]
 | .lit (.int _ _) => by simp [Rows.uptoBulk]
 | .lit (.float _ _) => by simp [Rows.uptoBulk]
 | .lit .nil => by simp [Rows.uptoBulk]
 | .nil => by simp [Rows.uptoBulk]
 | .ptr _ => by simp [Rows.uptoBulk]
 | .slice _ _ => by simp [Rows.uptoBulk]
 | .agg _ => by simp [Rows.uptoBulk]
 | .iface _ _ => by simp [Rows.uptoBulk]
 | .map _ => by simp [Rows.uptoBulk]
 | .held _ => by simp [Rows.uptoBulk]
theorem Rz {H : Type} : ∀ ds : List (DataW H), ds.length ≤ Rows.uptoBulkAll ds
 | [] => Nat.zero_le _
 | d :: r => by
  have := VU d;have := Rz r;simp only [Rows.uptoBulkAll, List.length_cons];omega
mutual
theorem ZS {H : Type} {b : Nat} : ∀ d : DataW H, Rows.uptoBulk d ≤ b → AK (some b) d
 | .lit (.string bytes), h => by
  rw [AK];intro c e;cases e;simp only [Rows.uptoBulk] at h;omega
 | .lit (.bool _), _ => by simp [AK]
 | .lit (.int _ _), _ => by simp [AK]
 | .lit (.float _ _), _ => by simp [AK]
 | .lit .nil, _ => by simp [AK]
 | .nil, _ => by simp [AK]
 | .ptr _, _ => by simp [AK]
 | .slice elems _, h => by
  rw [AK];simp only [Rows.uptoBulk] at h;exact ⟨fun c e => (by cases e; have := Rz elems; omega), Nf elems (by omega)⟩
 | .agg parts, h => by
  rw [AK];simp only [Rows.uptoBulk] at h;exact Nf parts (by omega)
 | .iface _ _, _ => by simp [AK]
 | .map _, _ => by simp [AK]
 | .held _, _ => by simp [AK]
theorem Nf {H : Type} {b : Nat} : ∀ ds : List (DataW H), Rows.uptoBulkAll ds ≤ b → Bi (some b) ds
 | [], _ => by simp [Bi]
 | d :: r, h => by
  rw [Bi];simp only [Rows.uptoBulkAll] at h;exact ⟨ZS d (by omega), Nf r (by omega)⟩
end
theorem plain [An] (xs : List D) (h : Gw (some 1048576) Try.prog Try.f5.params.toList xs) : Ap ts 49 (.row (.int 0 :: xs)) = .row [.int 1, .bool true] := by
 obtain ⟨hl, hc, hs⟩ := ZK (ks := [.str, .slice 75, .slice 69, .slice 64, .str, .slice 75, .slice 69, .slice 64, .slice 73, .slice 77, .slice 3]) h (by kernel_rfl)
 have K64 : (Env.of Try.prog).kinds 64 = some [.str, .str, .int .i64, .str, .str, .str, .int .i64, .int .i64, .int .i64] := by kernel_rfl
 have K69 : (Env.of Try.prog).kinds 69 = some [.str, .int .i64] := by kernel_rfl
 have K77 : (Env.of Try.prog).kinds 77 = some [.str, .str, .int .i64] := by kernel_rfl
 have K3 : (Env.of Try.prog).kinds 3 = some [.int .i64] := by kernel_rfl
 match xs, hl, hc, hs with
 | [v0, v1, v2, v3, v4, v5, v6, v7, v8, v9, v10], _, hc, hs =>
  have S : ∀ v : D, FB (Env.of Try.prog).kinds 9 (.slice 64) v → ShK (Env.of Try.prog).kinds (some 1048576) 9 (.slice 64) v → Dk v := fun v hb hd i hi =>
   ⟨(hb.cell (i := (i : Int)) (j := 2) K64 (by omega) (by omega) rfl).toI, (hb.cell (i := (i : Int)) (j := 6) K64 (by omega) (by omega) rfl).toI, (hb.cell (i := (i : Int)) (j := 7) K64 (by omega) (by omega) rfl).toI, (hb.cell (i := (i : Int)) (j := 8) K64 (by omega) (by omega) rfl).toI,
    by have := (hd.cell (j := 3) K64 hi rfl).text; omega, by have := (hd.cell (j := 4) K64 hi rfl).text; omega⟩
  have h9 : FB (Env.of Try.prog).kinds 9 (.slice 77) v9 := hc 9 _ rfl;have h10 : FB (Env.of Try.prog).kinds 9 (.slice 3) v10 := hc 10 _ rfl;have L : ∀ v : D, FB (Env.of Try.prog).kinds 9 (.slice 69) v → ∀ i : Nat, i < len v → ∃ m, cl v i 1 = .int m := fun v h2 i hi => (h2.cell (i := (i : Int)) (j := 1) K69 (by omega) (by omega) rfl).toI
  exact law (S v3 (hc 3 _ rfl) (hs 3 _ rfl)) (S v7 (hc 7 _ rfl) (hs 7 _ rfl)) (L v2 (hc 2 _ rfl)) (L v6 (hc 6 _ rfl)) (fun i hi => (h9.cell (i := (i : Int)) (j := 2) K77 (by omega) (by omega) rfl).toI) (fun i hi => (h10.cell (i := (i : Int)) (j := 0) K3 (by omega) (by omega) rfl).toI)
theorem lifted (os : Os) (started : os.Started) (H : Type) (enc : TypeId × Value → H) (F : Stop.Interp) :
  ReturnsInHanded {} Try.checked os 5 .any ((Rows.OpenSpec.upto Rows.convertReplacesSpec).pre6 enc Try.prog Try.f5 Rows.convertReplacesUptoRow.domain false) (((Rows.OpenSpec.upto Rows.convertReplacesSpec).at F).post enc Try.prog Try.f5 false true false false) := by
 obtain ⟨inst⟩ := Ui
 exact Sk (C := Try.checked) (s := Rows.OpenSpec.upto Rows.convertReplacesSpec) (k := Rows.uptoSmall) rfl (o := some 1048576) (d := d49 E0) (T := t49) (keys := [12, 21, 29]) (N := 20000) (tb := 4) (L := [75, 69, 64, 73, 77, 3]) (fun ds h => Nf ds (of_decide_eq_true h)) own started (by kernel_rfl) Try.func5
  (OpenSpec.witness (enc := enc) (C := Try.checked) (s := Rows.OpenSpec.upto Rows.convertReplacesSpec) (k := Rows.uptoSmall) rfl false ⟨#[], #[.agg #[.string .empty, .slice none 0 0, .slice none 0 0, .slice none 0 0], .agg #[.string .empty, .slice none 0 0, .slice none 0 0, .slice none 0 0], .agg #[.slice none 0 0, .slice none 0 0], .slice none 0 0], []⟩ 8 (by kernel_rfl) (by kernel_rfl) (by kernel_rfl)
   (x := ([.agg [.lit (.string []), .nil, .nil, .nil], .agg [.lit (.string []), .nil, .nil, .nil], .agg [.nil, .nil], .nil], [], [])) (by kernel_rfl) (by kernel_rfl) (by kernel_rfl))
  (by kernel_rfl) readable rfl rfl (says F H) (by kernel_rfl) (by kernel_rfl) (okE _ _) v49 (fun x => Ar lt rfl x) c49.chk (by kernel_rfl) rfl (by kernel_rfl) plain
theorem over : Rows.convertReplacesUptoRow.holds Try.pinned (Rows.OpenSpec.upto Rows.convertReplacesSpec) :=
 OpenClaim.holds_of_cond 5 Try.f5 rfl rfl rfl rfl rfl rfl rfl ⟨rfl, rfl, rfl, rfl, rfl⟩ rfl rfl rfl rfl rfl (by kernel_rfl) Try.func5 (by kernel_rfl)
  (of_decide_eq_true (by kernel_rfl)) (by unfold Func.isWrapper; first | (rw [if_pos (by decide +kernel)]; kernel_rfl) | (rw [if_neg (by decide +kernel)]; exact ⟨rfl, rfl⟩))
  (fun os started H enc _ F => lifted os started H enc F)
theorem proved : Rows.ConvertReplacesUptoSaid := over
end Go.Proofs.Ytpcdkfgmpekeeaa.convertReplaces

