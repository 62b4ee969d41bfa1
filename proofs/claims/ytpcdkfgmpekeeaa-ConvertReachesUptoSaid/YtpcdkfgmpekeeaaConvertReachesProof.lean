/- What is proved: the given statement Rows.ConvertReachesUptoSaid: at every input of bulk at most 1048576 the law ConvertReaches returns true and leaves what its arguments reach as it was. Conditions: none beyond those that the given row itself states. The road: the functions that the law reaches are turned into plain functions over data, which the kernel checks; the plain law is proved of those. -/
import Derived.Test.YtpcdkfgmpekeeaaRows
import Derived.Test.YtpcdkfgmpekeeaaChecked
import Derived.Test.YtpcdkfgmpekeeaaConvertReachesDec
import Derived.Test.YtpcdkfgmpekeeaaConvertReachesPlain
import Derived.KernelRfl
import Derived.JoinedCond
import Derived.Handed
set_option linter.unusedVariables false
namespace Go.Proofs.Ytpcdkfgmpekeeaa.convertReaches
open Go.AE Ch
theorem own : ownKnob Try.prog.godebug = none := by kernel_rfl
theorem v0 [While] : OrcOK (Env.ofS Try.prog l27 (m0 (Env.of Try.prog))) (gAll ts) := (w27) (gAll ts)
theorem v1 [While] : OrcOK (Env.ofS Try.prog l27 (m1 (Env.of Try.prog))) (gAll ts) :=
 OrcOK.decL (okE _ _) v0 (d := d0 (Env.of Try.prog)) (fun x => gAll_eq lt rfl x) c0 rfl (by kernel_rfl)
theorem v2 [While] : OrcOK (Env.ofS Try.prog l27 (m2 (Env.of Try.prog))) (gAll ts) :=
 OrcOK.decL (okE _ _) v1 (d := d1 (Env.of Try.prog)) (fun x => gAll_eq lt rfl x) c1 rfl (by kernel_rfl)
theorem v3 [While] : OrcOK (Env.ofS Try.prog l27 (m3 (Env.of Try.prog))) (gAll ts) :=
 OrcOK.decL (okE _ _) v2 (d := d2 (Env.of Try.prog)) (fun x => gAll_eq lt rfl x) c2 rfl (by kernel_rfl)
theorem v4 [While] : OrcOK (Env.ofS Try.prog l27 (m4 (Env.of Try.prog))) (gAll ts) :=
 OrcOK.decL (okE _ _) v3 (d := d3 (Env.of Try.prog)) (fun x => gAll_eq lt rfl x) c3 rfl (by kernel_rfl)
theorem v5 [While] : OrcOK (Env.ofS Try.prog l27 (m5 (Env.of Try.prog))) (gAll ts) :=
 OrcOK.decL (okE _ _) v4 (d := d4 (Env.of Try.prog)) (fun x => gAll_eq lt rfl x) c4 rfl (by kernel_rfl)
theorem v6 [While] : OrcOK (Env.ofS Try.prog l27 (m6 (Env.of Try.prog))) (gAll ts) :=
 OrcOK.decL (okE _ _) v5 (d := d5 (Env.of Try.prog)) (fun x => gAll_eq lt rfl x) c5 rfl (by kernel_rfl)
theorem v7 [While] : OrcOK (Env.ofS Try.prog l27 (m7 (Env.of Try.prog))) (gAll ts) :=
 OrcOK.decL (okE _ _) v6 (d := d6 (Env.of Try.prog)) (fun x => gAll_eq lt rfl x) c6 rfl (by kernel_rfl)
theorem v8 [While] : OrcOK (Env.ofS Try.prog l27 (m8 (Env.of Try.prog))) (gAll ts) :=
 OrcOK.decL (okE _ _) v7 (d := d7 (Env.of Try.prog)) (fun x => gAll_eq lt rfl x) c7 rfl (by kernel_rfl)
theorem v9 [While] : OrcOK (Env.ofS Try.prog l27 (m9 (Env.of Try.prog))) (gAll ts) :=
 OrcOK.decL (okE _ _) v8 (d := d8 (Env.of Try.prog)) (fun x => gAll_eq lt rfl x) c8 rfl (by kernel_rfl)
theorem v10 [While] : OrcOK (Env.ofS Try.prog l27 (m10 (Env.of Try.prog))) (gAll ts) :=
 OrcOK.decL (okE _ _) v9 (d := d9 (Env.of Try.prog)) (fun x => gAll_eq lt rfl x) c9 rfl (by kernel_rfl)
theorem v11 [While] : OrcOK (Env.ofS Try.prog l27 (m11 (Env.of Try.prog))) (gAll ts) :=
 OrcOK.decL (okE _ _) v10 (d := d10 (Env.of Try.prog)) (fun x => gAll_eq lt rfl x) c10 rfl (by kernel_rfl)
theorem v12 [While] : OrcOK (Env.ofS Try.prog l27 (m12 (Env.of Try.prog))) (gAll ts) :=
 OrcOK.decL (okE _ _) v11 (d := d11 (Env.of Try.prog)) (fun x => gAll_eq lt rfl x) c11 rfl (by kernel_rfl)
theorem v13 [While] : OrcOK (Env.ofS Try.prog l27 (m13 (Env.of Try.prog))) (gAll ts) :=
 OrcOK.decL (okE _ _) v12 (d := d12 (Env.of Try.prog)) (fun x => gAll_eq lt rfl x) c12 rfl (by kernel_rfl)
theorem v14 [While] : OrcOK (Env.ofS Try.prog l27 (m14 (Env.of Try.prog))) (gAll ts) :=
 OrcOK.decL (okE _ _) v13 (d := d13 (Env.of Try.prog)) (fun x => gAll_eq lt rfl x) c13 rfl (by kernel_rfl)
theorem v15 [While] : OrcOK (Env.ofS Try.prog l27 (m15 (Env.of Try.prog))) (gAll ts) :=
 OrcOK.decL (okE _ _) v14 (d := d14 (Env.of Try.prog)) (fun x => gAll_eq lt rfl x) c14 rfl (by kernel_rfl)
theorem v16 [While] : OrcOK (Env.ofS Try.prog l27 (m16 (Env.of Try.prog))) (gAll ts) :=
 OrcOK.decL (okE _ _) v15 (d := d15 (Env.of Try.prog)) (fun x => gAll_eq lt rfl x) c15 rfl (by kernel_rfl)
theorem v17 [While] : OrcOK (Env.ofS Try.prog l27 (m17 (Env.of Try.prog))) (gAll ts) :=
 OrcOK.decL (okE _ _) v16 (d := d16 (Env.of Try.prog)) (fun x => gAll_eq lt rfl x) c16 rfl (by kernel_rfl)
theorem v18 [While] : OrcOK (Env.ofS Try.prog l27 (m18 (Env.of Try.prog))) (gAll ts) :=
 OrcOK.decL (okE _ _) v17 (d := d17 (Env.of Try.prog)) (fun x => gAll_eq lt rfl x) c17 rfl (by kernel_rfl)
theorem v19 [While] : OrcOK (Env.ofS Try.prog l27 (m19 (Env.of Try.prog))) (gAll ts) :=
 OrcOK.decL (okE _ _) v18 (d := d18 (Env.of Try.prog)) (fun x => gAll_eq lt rfl x) c18 rfl (by kernel_rfl)
theorem v20 [While] : OrcOK (Env.ofS Try.prog l27 (m20 (Env.of Try.prog))) (gAll ts) :=
 OrcOK.decL (okE _ _) v19 (d := d19 (Env.of Try.prog)) (fun x => gAll_eq lt rfl x) c19 rfl (by kernel_rfl)
theorem v21 [While] : OrcOK (Env.ofS Try.prog l27 (m21 (Env.of Try.prog))) (gAll ts) :=
 OrcOK.decL (okE _ _) v20 (d := d20 (Env.of Try.prog)) (fun x => gAll_eq lt rfl x) c20 rfl (by kernel_rfl)
theorem v22 [While] : OrcOK (Env.ofS Try.prog l27 (m22 (Env.of Try.prog))) (gAll ts) :=
 OrcOK.decL (okE _ _) v21 (d := d21 (Env.of Try.prog)) (fun x => gAll_eq lt rfl x) c21 rfl (by kernel_rfl)
theorem v23 [While] : OrcOK (Env.ofS Try.prog l27 (m23 (Env.of Try.prog))) (gAll ts) :=
 OrcOK.decL (okE _ _) v22 (d := d22 (Env.of Try.prog)) (fun x => gAll_eq lt rfl x) c22 rfl (by kernel_rfl)
theorem v24 [While] : OrcOK (Env.ofS Try.prog l27 (m24 (Env.of Try.prog))) (gAll ts) :=
 OrcOK.decL (okE _ _) v23 (d := d23 (Env.of Try.prog)) (fun x => gAll_eq lt rfl x) c23 rfl (by kernel_rfl)
theorem v25 [While] : OrcOK (Env.ofS Try.prog l27 (m25 (Env.of Try.prog))) (gAll ts) :=
 OrcOK.decL (okE _ _) v24 (d := d24 (Env.of Try.prog)) (fun x => gAll_eq lt rfl x) c24 rfl (by kernel_rfl)
theorem v26 [While] : OrcOK (Env.ofS Try.prog l27 (m26 (Env.of Try.prog))) (gAll ts) :=
 OrcOK.decL (okE _ _) v25 (d := d25 (Env.of Try.prog)) (fun x => gAll_eq lt rfl x) c25 rfl (by kernel_rfl)
theorem v27 [While] : OrcOK (Env.ofS Try.prog l27 (m27 (Env.of Try.prog))) (gAll ts) :=
 OrcOK.decL (okE _ _) v26 (d := d26 (Env.of Try.prog)) (fun x => gAll_eq lt rfl x) c26 rfl (by kernel_rfl)
theorem v28 [While] : OrcOK (Env.ofS Try.prog l27 (m28 (Env.of Try.prog))) (gAll ts) :=
 OrcOK.decL (okE _ _) v27 (d := d27 (Env.of Try.prog)) (fun x => gAll_eq lt rfl x) c27 rfl (by kernel_rfl)
theorem v29 [While] : OrcOK (Env.ofS Try.prog l27 (m29 (Env.of Try.prog))) (gAll ts) :=
 OrcOK.decL (okE _ _) v28 (d := d28 (Env.of Try.prog)) (fun x => gAll_eq lt rfl x) c28 rfl (by kernel_rfl)
theorem v30 [While] : OrcOK (Env.ofS Try.prog l27 (m30 (Env.of Try.prog))) (gAll ts) :=
 OrcOK.decL (okE _ _) v29 (d := d29 (Env.of Try.prog)) (fun x => gAll_eq lt rfl x) c29 rfl (by kernel_rfl)
theorem v31 [While] : OrcOK (Env.ofS Try.prog l27 (m31 (Env.of Try.prog))) (gAll ts) :=
 OrcOK.decL (okE _ _) v30 (d := d30 (Env.of Try.prog)) (fun x => gAll_eq lt rfl x) c30 rfl (by kernel_rfl)
theorem v32 [While] : OrcOK (Env.ofS Try.prog l27 (m32 (Env.of Try.prog))) (gAll ts) :=
 OrcOK.decL (okE _ _) v31 (d := d31 (Env.of Try.prog)) (fun x => gAll_eq lt rfl x) c31 rfl (by kernel_rfl)
theorem v33 [While] : OrcOK (Env.ofS Try.prog l27 (m33 (Env.of Try.prog))) (gAll ts) :=
 OrcOK.decL (okE _ _) v32 (d := d32 (Env.of Try.prog)) (fun x => gAll_eq lt rfl x) c32 rfl (by kernel_rfl)
theorem v34 [While] : OrcOK (Env.ofS Try.prog l27 (m34 (Env.of Try.prog))) (gAll ts) :=
 OrcOK.decL (okE _ _) v33 (d := d33 (Env.of Try.prog)) (fun x => gAll_eq lt rfl x) c33 rfl (by kernel_rfl)
theorem v35 [While] : OrcOK (Env.ofS Try.prog l27 (m35 (Env.of Try.prog))) (gAll ts) :=
 OrcOK.decL (okE _ _) v34 (d := d34 (Env.of Try.prog)) (fun x => gAll_eq lt rfl x) c34 rfl (by kernel_rfl)
theorem v36 [While] : OrcOK (Env.ofS Try.prog l27 (m36 (Env.of Try.prog))) (gAll ts) :=
 OrcOK.decL (okE _ _) v35 (d := d35 (Env.of Try.prog)) (fun x => gAll_eq lt rfl x) c35 rfl (by kernel_rfl)
theorem v37 [While] : OrcOK (Env.ofS Try.prog l27 (m37 (Env.of Try.prog))) (gAll ts) :=
 OrcOK.decL (okE _ _) v36 (d := d36 (Env.of Try.prog)) (fun x => gAll_eq lt rfl x) c36 rfl (by kernel_rfl)
theorem v38 [While] : OrcOK (Env.ofS Try.prog l27 (m38 (Env.of Try.prog))) (gAll ts) :=
 OrcOK.decL (okE _ _) v37 (d := d37 (Env.of Try.prog)) (fun x => gAll_eq lt rfl x) c37 rfl (by kernel_rfl)
theorem v39 [While] : OrcOK (Env.ofS Try.prog l27 (m39 (Env.of Try.prog))) (gAll ts) :=
 OrcOK.decL (okE _ _) v38 (d := d38 (Env.of Try.prog)) (fun x => gAll_eq lt rfl x) c38 rfl (by kernel_rfl)
theorem readable : ∀ t ∈ Try.f4.params.toList, Try.prog.readableRec t = true ∧ t < Try.prog.types.size := by
 have h : (Try.f4.params.toList.all fun t => Try.prog.readableRec t && decide (t < Try.prog.types.size)) = true := by kernel_rfl
 intro t ht
 have q := List.all_eq_true.mp h t ht
 rw [Bool.and_eq_true, decide_eq_true_eq] at q
 exact q
theorem says (F : Stop.Interp) (H : Type) (ds : List (DataW H)) (hl : ds.length = Try.f4.params.toList.length) : ((Rows.OpenSpec.upto Rows.convertReachesSpec).at F).fn H ds = { results := [.lit (.bool true)], args := ds } := by
 have e : Try.f4.params.toList.length = 1 := by kernel_rfl
 rw [e] at hl
 rcases ds with _ | ⟨d0, _ | ⟨d1, r⟩⟩ <;> first | rfl | (simp only [List.length_cons, List.length_nil] at hl; omega)
mutual
theorem short1 {H : Type} {b : Nat} : ∀ d : DataW H, Rows.uptoBulk d ≤ b → ShortW (some b) d
 | .lit (.string bytes), h => by
  rw [ShortW]
  intro c e
  cases e
  simp only [Rows.uptoBulk] at h
  omega
 | .lit (.bool _), _ => by simp [ShortW]
 | .lit (.int _ _), _ => by simp [ShortW]
 | .lit (.float _ _), _ => by simp [ShortW]
 | .lit .nil, _ => by simp [ShortW]
 | .nil, _ => by simp [ShortW]
 | .ptr _, _ => by simp [ShortW]
 | .slice elems _, h => by
  rw [ShortW]
  simp only [Rows.uptoBulk] at h
  exact shorts elems (by omega)
 | .agg parts, h => by
  rw [ShortW]
  simp only [Rows.uptoBulk] at h
  exact shorts parts (by omega)
 | .iface _ _, _ => by simp [ShortW]
 | .map _, _ => by simp [ShortW]
 | .held _, _ => by simp [ShortW]
theorem shorts {H : Type} {b : Nat} : ∀ ds : List (DataW H), Rows.uptoBulkAll ds ≤ b → ShortWs (some b) ds
 | [], _ => by simp [ShortWs]
 | d :: r, h => by
  rw [ShortWs]
  simp only [Rows.uptoBulkAll] at h
  exact ⟨short1 d (by omega), shorts r (by omega)⟩
end
theorem plain [While] (xs : List D) (h : LawArgsUp (some 1048576) Try.prog Try.f4.params.toList xs) : gAll ts 39 (.row (.int 0 :: xs)) = .row [.int 1, .bool true] := by
 obtain ⟨hl, hc, hs⟩ := law_up (ks := [.str, .slice 75, .slice 69, .slice 64]) h (by kernel_rfl)
 have K64 : (Env.of Try.prog).kinds 64 = some [.str, .str, .int .i64, .str, .str, .str, .int .i64, .int .i64, .int .i64] := by kernel_rfl
 have K69 : (Env.of Try.prog).kinds 69 = some [.str, .int .i64] := by kernel_rfl
 match xs, hl, hc, hs with
 | [v0, v1, v2, v3], _, hc, hs =>
  have S : ∀ v : D, CanK (Env.of Try.prog).kinds 9 (.slice 64) v → ShK (Env.of Try.prog).kinds (some 1048576) 9 (.slice 64) v → StepOk v := fun v hb hd i hi =>
   ⟨(hb.cell (i := (i : Int)) (j := 2) K64 (by omega) (by omega) rfl).toI, (hb.cell (i := (i : Int)) (j := 6) K64 (by omega) (by omega) rfl).toI, (hb.cell (i := (i : Int)) (j := 7) K64 (by omega) (by omega) rfl).toI, (hb.cell (i := (i : Int)) (j := 8) K64 (by omega) (by omega) rfl).toI,
    by have := (hd.cell (j := 3) K64 hi rfl).text; omega, by have := (hd.cell (j := 4) K64 hi rfl).text; omega⟩
  have h2 : CanK (Env.of Try.prog).kinds 9 (.slice 69) v2 := hc 2 _ rfl
  exact law (S v3 (hc 3 _ rfl) (hs 3 _ rfl)) fun i hi => (h2.cell (i := (i : Int)) (j := 1) K69 (by omega) (by omega) rfl).toI
theorem lifted (os : Os) (started : os.Started) (H : Type) (enc : TypeId × Value → H) (F : Stop.Interp) :
  ReturnsInHanded {} Try.checked os 4 .any ((Rows.OpenSpec.upto Rows.convertReachesSpec).pre6 enc Try.prog Try.f4 Rows.convertReachesUptoRow.domain false) (((Rows.OpenSpec.upto Rows.convertReachesSpec).at F).post enc Try.prog Try.f4 false true false false) := by
 obtain ⟨inst⟩ := while_ex
 exact law2_upto (C := Try.checked) (s := Rows.OpenSpec.upto Rows.convertReachesSpec) (k := Rows.uptoSmall) rfl (o := some 1048576) (d := d39 (Env.of Try.prog)) (T := t39) (keys := [12]) (N := 20000) (tb := 4) (L := [75, 69, 64]) (fun ds h => shorts ds (of_decide_eq_true h)) own started (by kernel_rfl) Try.func4
  (OpenSpec.witness (enc := enc) (C := Try.checked) (s := Rows.OpenSpec.upto Rows.convertReachesSpec) (k := Rows.uptoSmall) rfl false ⟨#[], #[.agg #[.string .empty, .slice none 0 0, .slice none 0 0, .slice none 0 0]], []⟩ 8 (by kernel_rfl) (by kernel_rfl) (by kernel_rfl)
   (x := ([.agg [.lit (.string []), .nil, .nil, .nil]], [], [])) (by kernel_rfl) (by kernel_rfl) (by kernel_rfl))
  (by kernel_rfl) readable rfl rfl (says F H) (by kernel_rfl) (by kernel_rfl) (okE _ _) v39 (fun x => gAll_eq lt rfl x) c39.chk (by kernel_rfl) rfl (by kernel_rfl) plain
theorem over : Rows.convertReachesUptoRow.holds Try.pinned (Rows.OpenSpec.upto Rows.convertReachesSpec) :=
 OpenClaim.holds_of_cond 4 Try.f4 rfl rfl rfl rfl rfl rfl rfl ⟨rfl, rfl, rfl, rfl, rfl⟩ rfl rfl rfl rfl rfl (by kernel_rfl) Try.func4 (by kernel_rfl)
  (of_decide_eq_true (by kernel_rfl)) (by unfold Func.isWrapper; first | (rw [if_pos (by decide +kernel)]; kernel_rfl) | (rw [if_neg (by decide +kernel)]; exact ⟨rfl, rfl⟩))
  (fun os started H enc _ F => lifted os started H enc F)
theorem proved : Rows.ConvertReachesUptoSaid := over
end Go.Proofs.Ytpcdkfgmpekeeaa.convertReaches
