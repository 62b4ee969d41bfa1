/- What is proved: the given statement Rows.IndexNoneCardSaid: at every input the law IndexNone returns true and leaves what its arguments reach as it was. Conditions: none beyond those that the given row itself states. The road: the functions that the law reaches are turned into plain functions over data, which the kernel checks; the plain law is proved of those. -/
import Derived.Test.YtkhnegoolkefjaaGreatDoorRows
import Derived.Test.YtkhnegoolkefjaaGreatDoorCards
import Derived.Test.YtkhnegoolkefjaaGreatDoorTie
import Derived.SevenTiedAt
import Derived.Lay
import Derived.Test.YtkhnegoolkefjaaGreatDoorChecked
import Derived.Test.YtkhnegoolkefjaaGreatDoorIndexNoneDec
import Derived.Test.YtkhnegoolkefjaaGreatDoorIndexNonePlain
import Derived.KernelRfl
import Derived.JoinedOf
import Derived.Handed
set_option linter.unusedVariables false
set_option linter.unusedSectionVars false
set_option linter.unusedSimpArgs false
namespace Go.Proofs.YtkhnegoolkefjaaGreatDoor.indexNone
open Go.AE Ix
theorem own : ownKnob Tryz.prog.godebug = none := by kernel_rfl
theorem v0 [BA] : Ai (EF m0) (De ts) := (w46) (De ts)
theorem v1 [BA] : Ai (EF m1) (De ts) := Ai.decL (okE _ _) v0 (d := d0 E0) (fun x => EU lt rfl x) c0 rfl (by kernel_rfl)
theorem readable : ∀ t ∈ Tryz.f3.params.toList, Tryz.prog.readableRec t = true ∧ t < Tryz.prog.types.size := by
 have h : (Tryz.f3.params.toList.all fun t => Tryz.prog.readableRec t && decide (t < Tryz.prog.types.size)) = true := by kernel_rfl
 intro t ht;have q := List.all_eq_true.mp h t ht;rw [Bool.and_eq_true, decide_eq_true_eq] at q;exact q
theorem says (H : Type) (ds : List (DataW H)) (hl : ds.length = Tryz.f3.params.toList.length) : Rows.indexNoneSpec.fn H ds = { results := [.lit (.bool true)], args := ds } := by
 have e : Tryz.f3.params.toList.length = 2 := by kernel_rfl
 rw [e] at hl;rcases ds with _ | ⟨d0, _ | ⟨d1, _ | ⟨d2, r⟩⟩⟩ <;> first | rfl | (simp only [List.length_cons, List.length_nil] at hl; omega)
theorem plain [BA] (xs : List D) (h : KS Tryz.prog Tryz.f3.params.toList xs) : De ts 1 (.row (.int 0 :: xs)) = .row [.int 1, .bool true] := by
 obtain ⟨hl, hc⟩ := Qg (ks := [.int .i64, .int .i64, .int .i64, .slice 3, .str, .str, .int .i64, .int .i64, .bool]) h (by kernel_rfl)
 match xs, hl, hc with
 | [a0, a1, a2, a3, a4, a5, a6, a7, a8], _, hc =>
  obtain ⟨n0, h0⟩ := (show D5 (Env.of Tryz.prog).kinds 9 (.int .i64) a0 from hc 0 _ rfl).toI
  obtain ⟨n1, h1⟩ := (show D5 (Env.of Tryz.prog).kinds 9 (.int .i64) a1 from hc 1 _ rfl).toI
  obtain ⟨n2, h2⟩ := (show D5 (Env.of Tryz.prog).kinds 9 (.int .i64) a2 from hc 2 _ rfl).toI
  obtain ⟨n6, h6⟩ := (show D5 (Env.of Tryz.prog).kinds 9 (.int .i64) a6 from hc 6 _ rfl).toI
  obtain ⟨n7, h7⟩ := (show D5 (Env.of Tryz.prog).kinds 9 (.int .i64) a7 from hc 7 _ rfl).toI
  obtain ⟨b8, h8⟩ := (show D5 (Env.of Tryz.prog).kinds 9 .bool a8 from hc 8 _ rfl).toB
  subst h0 h1 h2 h6 h7 h8;exact law n0 n1 n2 a3 a4 a5 n6 n7 b8
theorem lifted (os : Os) (started : os.Started) (H : Type) (enc : TypeId × Value → H) :
  ReturnsInHanded {} Tryz.checked os 3 .any (fun w args => (Rows.indexNoneSpec.pre enc Tryz.prog Tryz.f3 Rows.indexNoneRow.domain false w args ∧ laidMetH Tryz.prog Rows.indexNoneRow.laid w) ∧ sizedMet enc Tryz.prog Tryz.f3 (OpenSpec.ofChange Rows.indexNoneSpec) false w args) (Rows.indexNoneSpec.post enc Tryz.prog Tryz.f3 false true false false) := by
 obtain ⟨inst⟩ := QA
 exact Oy (X := fun w _ => laidMetH Tryz.prog Rows.indexNoneRow.laid w) (fun _ _ _ hh h => h.of_heap hh) (C := Tryz.checked) (d := d1 E0) (T := t1) (keys := [4]) (N := 20000) (tb := 4) (L := [3]) own started (by kernel_rfl) Tryz.func3
  (ChangeSpec.witness_shaped (enc := enc) (C := Tryz.checked) (os := os) (X := fun w _ => laidMetH Tryz.prog Rows.indexNoneRow.laid w) false (World.laidAll Tryz.prog os Rows.indexNoneRow.laid) #[.int .i64 0, .agg #[.int .i64 0, .int .i64 0, .slice none 0 0, .string .empty, .string .empty, .int .i64 0, .int .i64 0, .bool false]] 8 (World.laidAll_os _ _ _)
   (World.shaped_of_ZipB (by kernel_rfl) (by kernel_rfl)) (by kernel_rfl) (by kernel_rfl) (by kernel_rfl)
   (by rw [MakeChecks.laidMetH_plain _ _ _ (by kernel_rfl)]; exact laidMet_laidAll _ (by kernel_rfl) (by kernel_rfl)))
  (by kernel_rfl) readable rfl (says H) (by kernel_rfl) (by kernel_rfl) (okE _ _) v1 (fun x => EU lt rfl x) c1.chk (by kernel_rfl) rfl (by kernel_rfl) plain
end Go.Proofs.YtkhnegoolkefjaaGreatDoor.indexNone


