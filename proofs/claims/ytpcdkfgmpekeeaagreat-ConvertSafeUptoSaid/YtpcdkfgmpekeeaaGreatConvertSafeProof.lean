/- What is proved: the given statement Rows.ConvertSafeUptoSaid: at every input of bulk at most 1048576 the law ConvertSafe returns true and leaves what its arguments reach as it was. Conditions: none beyond those that the given row itself states. The road: the functions that the law reaches are turned into plain functions over data, which the kernel checks; the plain law is proved of those. -/
import Derived.Test.YtpcdkfgmpekeeaaGreatRows
import Derived.Test.YtpcdkfgmpekeeaaGreatChecked
import Derived.Test.YtpcdkfgmpekeeaaGreatConvertSafeDec
import Derived.Test.YtpcdkfgmpekeeaaGreatConvertSafePlain
import Derived.KernelRfl
import Derived.JoinedCond
import Derived.Handed
set_option linter.unusedVariables false
set_option linter.unusedSectionVars false
set_option linter.unusedSimpArgs false
namespace Go.Proofs.YtpcdkfgmpekeeaaGreat.convertSafe
open Go.AE Cs
theorem own : ownKnob Tryz.prog.godebug = none := by kernel_rfl
theorem v0 [Ar] : Ag (EF m0) (Ak ts) := (w27) (Ak ts)
theorem v1 [Ar] : Ag (EF m1) (Ak ts) := Ag.decL (okE _ _) v0 (d := d0 E0) (fun x => Aq lt rfl x) c0 rfl (by kernel_rfl)
theorem v2 [Ar] : Ag (EF m2) (Ak ts) := Ag.decL (okE _ _) v1 (d := d1 E0) (fun x => Aq lt rfl x) c1 rfl (by kernel_rfl)
theorem v3 [Ar] : Ag (EF m3) (Ak ts) := Ag.decL (okE _ _) v2 (d := d2 E0) (fun x => Aq lt rfl x) c2 rfl (by kernel_rfl)
theorem v4 [Ar] : Ag (EF m4) (Ak ts) := Ag.decL (okE _ _) v3 (d := d3 E0) (fun x => Aq lt rfl x) c3 rfl (by kernel_rfl)
theorem v5 [Ar] : Ag (EF m5) (Ak ts) := Ag.decL (okE _ _) v4 (d := d4 E0) (fun x => Aq lt rfl x) c4 rfl (by kernel_rfl)
theorem v6 [Ar] : Ag (EF m6) (Ak ts) := Ag.decL (okE _ _) v5 (d := d5 E0) (fun x => Aq lt rfl x) c5 rfl (by kernel_rfl)
theorem v7 [Ar] : Ag (EF m7) (Ak ts) := Ag.decL (okE _ _) v6 (d := d6 E0) (fun x => Aq lt rfl x) c6 rfl (by kernel_rfl)
theorem v8 [Ar] : Ag (EF m8) (Ak ts) := Ag.decL (okE _ _) v7 (d := d7 E0) (fun x => Aq lt rfl x) c7 rfl (by kernel_rfl)
theorem v9 [Ar] : Ag (EF m9) (Ak ts) := Ag.decL (okE _ _) v8 (d := d8 E0) (fun x => Aq lt rfl x) c8 rfl (by kernel_rfl)
theorem v10 [Ar] : Ag (EF m10) (Ak ts) := Ag.decL (okE _ _) v9 (d := d9 E0) (fun x => Aq lt rfl x) c9 rfl (by kernel_rfl)
theorem v11 [Ar] : Ag (EF m11) (Ak ts) := Ag.decL (okE _ _) v10 (d := d10 E0) (fun x => Aq lt rfl x) c10 rfl (by kernel_rfl)
theorem v12 [Ar] : Ag (EF m12) (Ak ts) := Ag.decL (okE _ _) v11 (d := d11 E0) (fun x => Aq lt rfl x) c11 rfl (by kernel_rfl)
theorem v13 [Ar] : Ag (EF m13) (Ak ts) := Ag.decL (okE _ _) v12 (d := d12 E0) (fun x => Aq lt rfl x) c12 rfl (by kernel_rfl)
theorem v14 [Ar] : Ag (EF m14) (Ak ts) := Ag.decL (okE _ _) v13 (d := d13 E0) (fun x => Aq lt rfl x) c13 rfl (by kernel_rfl)
theorem v15 [Ar] : Ag (EF m15) (Ak ts) := Ag.decL (okE _ _) v14 (d := d14 E0) (fun x => Aq lt rfl x) c14 rfl (by kernel_rfl)
theorem v16 [Ar] : Ag (EF m16) (Ak ts) := Ag.decL (okE _ _) v15 (d := d15 E0) (fun x => Aq lt rfl x) c15 rfl (by kernel_rfl)
theorem v17 [Ar] : Ag (EF m17) (Ak ts) := Ag.decL (okE _ _) v16 (d := d16 E0) (fun x => Aq lt rfl x) c16 rfl (by kernel_rfl)
theorem v18 [Ar] : Ag (EF m18) (Ak ts) := Ag.decL (okE _ _) v17 (d := d17 E0) (fun x => Aq lt rfl x) c17 rfl (by kernel_rfl)
theorem v19 [Ar] : Ag (EF m19) (Ak ts) := Ag.decL (okE _ _) v18 (d := d18 E0) (fun x => Aq lt rfl x) c18 rfl (by kernel_rfl)
theorem v20 [Ar] : Ag (EF m20) (Ak ts) := Ag.decL (okE _ _) v19 (d := d19 E0) (fun x => Aq lt rfl x) c19 rfl (by kernel_rfl)
theorem v21 [Ar] : Ag (EF m21) (Ak ts) := Ag.decL (okE _ _) v20 (d := d20 E0) (fun x => Aq lt rfl x) c20 rfl (by kernel_rfl)
theorem v22 [Ar] : Ag (EF m22) (Ak ts) := Ag.decL (okE _ _) v21 (d := d21 E0) (fun x => Aq lt rfl x) c21 rfl (by kernel_rfl)
theorem v23 [Ar] : Ag (EF m23) (Ak ts) := Ag.decL (okE _ _) v22 (d := d22 E0) (fun x => Aq lt rfl x) c22 rfl (by kernel_rfl)
theorem v24 [Ar] : Ag (EF m24) (Ak ts) := Ag.decL (okE _ _) v23 (d := d23 E0) (fun x => Aq lt rfl x) c23 rfl (by kernel_rfl)
theorem v25 [Ar] : Ag (EF m25) (Ak ts) := Ag.decL (okE _ _) v24 (d := d24 E0) (fun x => Aq lt rfl x) c24 rfl (by kernel_rfl)
theorem v26 [Ar] : Ag (EF m26) (Ak ts) := Ag.decL (okE _ _) v25 (d := d25 E0) (fun x => Aq lt rfl x) c25 rfl (by kernel_rfl)
theorem v27 [Ar] : Ag (EF m27) (Ak ts) := Ag.decL (okE _ _) v26 (d := d26 E0) (fun x => Aq lt rfl x) c26 rfl (by kernel_rfl)
theorem v28 [Ar] : Ag (EF m28) (Ak ts) := Ag.decL (okE _ _) v27 (d := d27 E0) (fun x => Aq lt rfl x) c27 rfl (by kernel_rfl)
theorem v29 [Ar] : Ag (EF m29) (Ak ts) := Ag.decL (okE _ _) v28 (d := d28 E0) (fun x => Aq lt rfl x) c28 rfl (by kernel_rfl)
theorem v30 [Ar] : Ag (EF m30) (Ak ts) := Ag.decL (okE _ _) v29 (d := d29 E0) (fun x => Aq lt rfl x) c29 rfl (by kernel_rfl)
theorem v31 [Ar] : Ag (EF m31) (Ak ts) := Ag.decL (okE _ _) v30 (d := d30 E0) (fun x => Aq lt rfl x) c30 rfl (by kernel_rfl)
theorem v32 [Ar] : Ag (EF m32) (Ak ts) := Ag.decL (okE _ _) v31 (d := d31 E0) (fun x => Aq lt rfl x) c31 rfl (by kernel_rfl)
theorem v33 [Ar] : Ag (EF m33) (Ak ts) := Ag.decL (okE _ _) v32 (d := d32 E0) (fun x => Aq lt rfl x) c32 rfl (by kernel_rfl)
theorem v34 [Ar] : Ag (EF m34) (Ak ts) := Ag.decL (okE _ _) v33 (d := d33 E0) (fun x => Aq lt rfl x) c33 rfl (by kernel_rfl)
theorem v35 [Ar] : Ag (EF m35) (Ak ts) := Ag.decL (okE _ _) v34 (d := d34 E0) (fun x => Aq lt rfl x) c34 rfl (by kernel_rfl)
theorem v36 [Ar] : Ag (EF m36) (Ak ts) := Ag.decL (okE _ _) v35 (d := d35 E0) (fun x => Aq lt rfl x) c35 rfl (by kernel_rfl)
theorem v37 [Ar] : Ag (EF m37) (Ak ts) := Ag.decL (okE _ _) v36 (d := d36 E0) (fun x => Aq lt rfl x) c36 rfl (by kernel_rfl)
theorem v38 [Ar] : Ag (EF m38) (Ak ts) := Ag.decL (okE _ _) v37 (d := d37 E0) (fun x => Aq lt rfl x) c37 rfl (by kernel_rfl)
theorem v39 [Ar] : Ag (EF m39) (Ak ts) := Ag.decL (okE _ _) v38 (d := d38 E0) (fun x => Aq lt rfl x) c38 rfl (by kernel_rfl)
theorem v40 [Ar] : Ag (EF m40) (Ak ts) := Ag.decL (okE _ _) v39 (d := d39 E0) (fun x => Aq lt rfl x) c39 rfl (by kernel_rfl)
theorem v41 [Ar] : Ag (EF m41) (Ak ts) := Ag.decL (okE _ _) v40 (d := d40 E0) (fun x => Aq lt rfl x) c40 rfl (by kernel_rfl)
theorem v42 [Ar] : Ag (EF m42) (Ak ts) := Ag.decL (okE _ _) v41 (d := d41 E0) (fun x => Aq lt rfl x) c41 rfl (by kernel_rfl)
theorem v43 [Ar] : Ag (EF m43) (Ak ts) := Ag.decL (okE _ _) v42 (d := d42 E0) (fun x => Aq lt rfl x) c42 rfl (by kernel_rfl)
theorem v44 [Ar] : Ag (EF m44) (Ak ts) := Ag.decL (okE _ _) v43 (d := d43 E0) (fun x => Aq lt rfl x) c43 rfl (by kernel_rfl)
theorem v45 [Ar] : Ag (EF m45) (Ak ts) := Ag.decL (okE _ _) v44 (d := d44 E0) (fun x => Aq lt rfl x) c44 rfl (by kernel_rfl)
theorem v46 [Ar] : Ag (EF m46) (Ak ts) := Ag.decL (okE _ _) v45 (d := d45 E0) (fun x => Aq lt rfl x) c45 rfl (by kernel_rfl)
theorem v47 [Ar] : Ag (EF m47) (Ak ts) := Ag.decL (okE _ _) v46 (d := d46 E0) (fun x => Aq lt rfl x) c46 rfl (by kernel_rfl)
theorem v48 [Ar] : Ag (EF m48) (Ak ts) := Ag.decL (okE _ _) v47 (d := d47 E0) (fun x => Aq lt rfl x) c47 rfl (by kernel_rfl)
theorem v49 [Ar] : Ag (EF m49) (Ak ts) := Ag.decL (okE _ _) v48 (d := d48 E0) (fun x => Aq lt rfl x) c48 rfl (by kernel_rfl)
theorem v50 [Ar] : Ag (EF m50) (Ak ts) := Ag.decL (okE _ _) v49 (d := d49 E0) (fun x => Aq lt rfl x) c49 rfl (by kernel_rfl)
theorem v51 [Ar] : Ag (EF m51) (Ak ts) := Ag.decL (okE _ _) v50 (d := d50 E0) (fun x => Aq lt rfl x) c50 rfl (by kernel_rfl)
theorem v52 [Ar] : Ag (EF m52) (Ak ts) := Ag.decL (okE _ _) v51 (d := d51 E0) (fun x => Aq lt rfl x) c51 rfl (by kernel_rfl)
theorem v53 [Ar] : Ag (EF m53) (Ak ts) := Ag.decL (okE _ _) v52 (d := d52 E0) (fun x => Aq lt rfl x) c52 rfl (by kernel_rfl)
theorem v54 [Ar] : Ag (EF m54) (Ak ts) := Ag.decL (okE _ _) v53 (d := d53 E0) (fun x => Aq lt rfl x) c53 rfl (by kernel_rfl)
theorem v55 [Ar] : Ag (EF m55) (Ak ts) := Ag.decL (okE _ _) v54 (d := d54 E0) (fun x => Aq lt rfl x) c54 rfl (by kernel_rfl)
theorem v56 [Ar] : Ag (EF m56) (Ak ts) := Ag.decL (okE _ _) v55 (d := d55 E0) (fun x => Aq lt rfl x) c55 rfl (by kernel_rfl)
theorem v57 [Ar] : Ag (EF m57) (Ak ts) := Ag.decL (okE _ _) v56 (d := d56 E0) (fun x => Aq lt rfl x) c56 rfl (by kernel_rfl)
theorem v58 [Ar] : Ag (EF m58) (Ak ts) := Ag.decL (okE _ _) v57 (d := d57 E0) (fun x => Aq lt rfl x) c57 rfl (by kernel_rfl)
theorem v59 [Ar] : Ag (EF m59) (Ak ts) := Ag.decL (okE _ _) v58 (d := d58 E0) (fun x => Aq lt rfl x) c58 rfl (by kernel_rfl)
theorem v60 [Ar] : Ag (EF m60) (Ak ts) := Ag.decL (okE _ _) v59 (d := d59 E0) (fun x => Aq lt rfl x) c59 rfl (by kernel_rfl)
theorem v61 [Ar] : Ag (EF m61) (Ak ts) := Ag.decL (okE _ _) v60 (d := d60 E0) (fun x => Aq lt rfl x) c60 rfl (by kernel_rfl)
theorem v62 [Ar] : Ag (EF m62) (Ak ts) := Ag.decL (okE _ _) v61 (d := d61 E0) (fun x => Aq lt rfl x) c61 rfl (by kernel_rfl)
theorem v63 [Ar] : Ag (EF m63) (Ak ts) := Ag.decL (okE _ _) v62 (d := d62 E0) (fun x => Aq lt rfl x) c62 rfl (by kernel_rfl)
theorem v64 [Ar] : Ag (EF m64) (Ak ts) := Ag.decL (okE _ _) v63 (d := d63 E0) (fun x => Aq lt rfl x) c63 rfl (by kernel_rfl)
theorem v65 [Ar] : Ag (EF m65) (Ak ts) := Ag.decL (okE _ _) v64 (d := d64 E0) (fun x => Aq lt rfl x) c64 rfl (by kernel_rfl)
theorem v66 [Ar] : Ag (EF m66) (Ak ts) := Ag.decL (okE _ _) v65 (d := d65 E0) (fun x => Aq lt rfl x) c65 rfl (by kernel_rfl)
theorem v67 [Ar] : Ag (EF m67) (Ak ts) := Ag.decL (okE _ _) v66 (d := d66 E0) (fun x => Aq lt rfl x) c66 rfl (by kernel_rfl)
theorem readable : ∀ t ∈ Tryz.f3.params.toList, Tryz.prog.readableRec t = true ∧ t < Tryz.prog.types.size := by
 have h : (Tryz.f3.params.toList.all fun t => Tryz.prog.readableRec t && decide (t < Tryz.prog.types.size)) = true := by kernel_rfl
 intro t ht;have q := List.all_eq_true.mp h t ht;rw [Bool.and_eq_true, decide_eq_true_eq] at q;exact q
theorem says (F : Stop.Interp) (H : Type) (ds : List (DataW H)) (hl : ds.length = Tryz.f3.params.toList.length) : ((Rows.OpenSpec.upto Rows.convertSafeSpec).at F).fn H ds = { results := [.lit (.bool true)], args := ds } := by
 have e : Tryz.f3.params.toList.length = 3 := by kernel_rfl
 rw [e] at hl;rcases ds with _ | ⟨d0, _ | ⟨d1, _ | ⟨d2, _ | ⟨d3, r⟩⟩⟩⟩ <;> first | rfl | (simp only [List.length_cons, List.length_nil] at hl; omega)
theorem Yi {H : Type} : ∀ d : DataW H, 1 ≤ Rows.uptoBulk d
 | .lit (.string _) => by simp [Rows.uptoBulk]
 | .lit (.bool _) => by simp [Rows.uptoBulk]
 | .lit (.int _ _) => by simp [Rows.uptoBulk]
 | .lit (.float _ _) => by simp [Rows.uptoBulk]
 | .lit .nil => by simp [Rows.uptoBulk]
 | .nil => by simp [Rows.uptoBulk]
 | .ptr _ => by simp [Rows.uptoBulk]
 | .slice _ _ => by simp [Rows.uptoBulk]
 | .agg _ => by simp [Rows.uptoBulk]
 | .iface _ _ => by simp [Rows.uptoBulk]
 | .map _ => by simp [Rows.uptoBulk]
 | .held _ => by simp [Rows.uptoBulk]
theorem SG {H : Type} : ∀ ds : List (DataW H), ds.length ≤ Rows.uptoBulkAll ds
 | [] => Nat.zero_le _
 | d :: r => by
  have := Yi d;have := SG r;simp only [Rows.uptoBulkAll, List.length_cons];omega
mutual
theorem cj {H : Type} {b : Nat} : ∀ d : DataW H, Rows.uptoBulk d ≤ b → AM (some b) d
 | .lit (.string bytes), h => by
  rw [AM];intro c e;cases e;simp only [Rows.uptoBulk] at h;omega
 | .lit (.bool _), _ => by simp [AM]
 | .lit (.int _ _), _ => by simp [AM]
 | .lit (.float _ _), _ => by simp [AM]
 | .lit .nil, _ => by simp [AM]
 | .nil, _ => by simp [AM]
 | .ptr _, _ => by simp [AM]
 | .slice elems _, h => by
  rw [AM];simp only [Rows.uptoBulk] at h;exact ⟨fun c e => (by cases e; have := SG elems; omega), Oa elems (by omega)⟩
 | .agg parts, h => by
  rw [AM];simp only [Rows.uptoBulk] at h;exact Oa parts (by omega)
 | .iface _ _, _ => by simp [AM]
 | .map _, _ => by simp [AM]
 | .held _, _ => by simp [AM]
theorem Oa {H : Type} {b : Nat} : ∀ ds : List (DataW H), Rows.uptoBulkAll ds ≤ b → Bf (some b) ds
 | [], _ => by simp [Bf]
 | d :: r, h => by
  rw [Bf];simp only [Rows.uptoBulkAll] at h;exact ⟨cj d (by omega), Oa r (by omega)⟩
end
theorem plain [Ar] (xs : List D) (h : GM (some 1048576) Tryz.prog Tryz.f3.params.toList xs) : Ak ts 67 (.row (.int 0 :: xs)) = .row [.int 1, .bool true] := by
 obtain ⟨hl, hc, hs⟩ := bJ (ks := [.str, .slice 100, .slice 36, .slice 103, .str, .slice 100, .slice 36, .slice 103, .slice 64, .slice 86]) h (by kernel_rfl)
 have K64 : (Env.of Tryz.prog).kinds 103 = some [.str, .str, .int .i64, .str, .str, .str, .int .i64, .int .i64, .int .i64] := by kernel_rfl
 have K69 : (Env.of Tryz.prog).kinds 36 = some [.str, .int .i64] := by kernel_rfl
 have K77 : (Env.of Tryz.prog).kinds 86 = some [.str, .str, .int .i64] := by kernel_rfl
 match xs, hl, hc, hs with
 | [v0, v1, v2, v3, v4, v5, v6, v7, v8, v9], _, hc, hs =>
  have S : ∀ v : D, G0 (Env.of Tryz.prog).kinds 9 (.slice 103) v → ShK (Env.of Tryz.prog).kinds (some 1048576) 9 (.slice 103) v → B4 v := fun v hb hd i hi =>
   ⟨(hb.cell (i := (i : Int)) (j := 2) K64 (by omega) (by omega) rfl).toI, (hb.cell (i := (i : Int)) (j := 6) K64 (by omega) (by omega) rfl).toI, (hb.cell (i := (i : Int)) (j := 7) K64 (by omega) (by omega) rfl).toI, (hb.cell (i := (i : Int)) (j := 8) K64 (by omega) (by omega) rfl).toI,
    by have := (hd.cell (j := 3) K64 hi rfl).text; omega, by have := (hd.cell (j := 4) K64 hi rfl).text; omega⟩
  have h9 : G0 (Env.of Tryz.prog).kinds 9 (.slice 86) v9 := hc 9 _ rfl;have L : ∀ v : D, G0 (Env.of Tryz.prog).kinds 9 (.slice 36) v → ∀ i : Nat, i < len v → ∃ m, cl v i 1 = .int m := fun v h2 i hi => (h2.cell (i := (i : Int)) (j := 1) K69 (by omega) (by omega) rfl).toI
  exact law (S v3 (hc 3 _ rfl) (hs 3 _ rfl)) (S v7 (hc 7 _ rfl) (hs 7 _ rfl)) (L v2 (hc 2 _ rfl)) (L v6 (hc 6 _ rfl)) (fun i hi => (h9.cell (i := (i : Int)) (j := 2) K77 (by omega) (by omega) rfl).toI)
theorem lifted (os : Os) (started : os.Started) (H : Type) (enc : TypeId × Value → H) (F : Stop.Interp) :
  ReturnsInHanded {} Tryz.checked os 3 .any ((Rows.OpenSpec.upto Rows.convertSafeSpec).pre6 enc Tryz.prog Tryz.f3 Rows.convertSafeUptoRow.domain false) (((Rows.OpenSpec.upto Rows.convertSafeSpec).at F).post enc Tryz.prog Tryz.f3 false true false false) := by
 obtain ⟨inst⟩ := Xj
 exact Tk (C := Tryz.checked) (s := Rows.OpenSpec.upto Rows.convertSafeSpec) (k := Rows.uptoSmall) rfl (o := some 1048576) (d := d67 E0) (T := t67) (keys := [4, 8]) (N := 20000) (tb := 4) (L := [100, 36, 103, 64, 86]) (fun ds h => Oa ds (of_decide_eq_true h)) own started (by kernel_rfl) Tryz.func3
  (OpenSpec.witness (enc := enc) (C := Tryz.checked) (s := Rows.OpenSpec.upto Rows.convertSafeSpec) (k := Rows.uptoSmall) rfl false ⟨#[], #[.agg #[.string .empty, .slice none 0 0, .slice none 0 0, .slice none 0 0], .agg #[.string .empty, .slice none 0 0, .slice none 0 0, .slice none 0 0], .agg #[.slice none 0 0, .slice none 0 0]], []⟩ 8 (by kernel_rfl) (by kernel_rfl) (by kernel_rfl)
   (x := ([.agg [.lit (.string []), .nil, .nil, .nil], .agg [.lit (.string []), .nil, .nil, .nil], .agg [.nil, .nil]], [], [])) (by kernel_rfl) (by kernel_rfl) (by kernel_rfl))
  (by kernel_rfl) readable rfl rfl (says F H) (by kernel_rfl) (by kernel_rfl) (okE _ _) v67 (fun x => Aq lt rfl x) c67.chk (by kernel_rfl) rfl (by kernel_rfl) plain
theorem over : Rows.convertSafeUptoRow.holds Tryz.pinned (Rows.OpenSpec.upto Rows.convertSafeSpec) :=
 OpenClaim.holds_of_cond 3 Tryz.f3 rfl rfl rfl rfl rfl rfl rfl ⟨rfl, rfl, rfl, rfl, rfl⟩ rfl rfl rfl rfl rfl (by kernel_rfl) Tryz.func3 (by kernel_rfl)
  (of_decide_eq_true (by kernel_rfl)) (by unfold Func.isWrapper; first | (rw [if_pos (by decide +kernel)]; kernel_rfl) | (rw [if_neg (by decide +kernel)]; exact ⟨rfl, rfl⟩))
  (fun os started H enc _ F => lifted os started H enc F)
theorem proved : Rows.ConvertSafeUptoSaid := over
end Go.Proofs.YtpcdkfgmpekeeaaGreat.convertSafe

