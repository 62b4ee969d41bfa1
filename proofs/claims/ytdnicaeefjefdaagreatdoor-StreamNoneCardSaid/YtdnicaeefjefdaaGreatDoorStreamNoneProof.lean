/- What is proved: the given statement Rows.StreamNoneCardSaid: at every input the law StreamNone returns true and leaves what its arguments reach as it was. Conditions: none beyond those that the given row itself states. The road: the functions that the law reaches are turned into plain functions over data, which the kernel checks; the plain law is proved of those. -/
import Derived.Test.YtdnicaeefjefdaaGreatDoorRows
import Derived.Test.YtdnicaeefjefdaaGreatDoorCards
import Derived.Test.YtdnicaeefjefdaaGreatDoorTie
import Derived.SevenTiedAt
import Derived.Lay
import Derived.Test.YtdnicaeefjefdaaGreatDoorChecked
import Derived.Test.YtdnicaeefjefdaaGreatDoorStreamNoneDecA
import Derived.Test.YtdnicaeefjefdaaGreatDoorStreamNonePlain
import Derived.KernelRfl
import Derived.JoinedOf
import Derived.Handed
set_option linter.unusedVariables false
set_option linter.unusedSectionVars false
set_option linter.unusedSimpArgs false
namespace Go.Proofs.YtdnicaeefjefdaaGreatDoor.streamNone
open Go.AE Sn
theorem own : ownKnob Tryz.prog.godebug = none := by kernel_rfl
theorem v0 [A8] : AG (EF m0) (CY ts) := (w7) (CY ts)
theorem v1 [A8] : AG (EF m1) (CY ts) := AG.decL (okE _ _) v0 (d := d0 E0) (fun x => Ej lt rfl x) c0 rfl (by kernel_rfl)
theorem readable : ∀ t ∈ Tryz.f3.params.toList, Tryz.prog.readableRec t = true ∧ t < Tryz.prog.types.size := by
 have h : (Tryz.f3.params.toList.all fun t => Tryz.prog.readableRec t && decide (t < Tryz.prog.types.size)) = true := by kernel_rfl
 intro t ht;have q := List.all_eq_true.mp h t ht;rw [Bool.and_eq_true, decide_eq_true_eq] at q;exact q
theorem says (H : Type) (ds : List (DataW H)) (hl : ds.length = Tryz.f3.params.toList.length) : Rows.streamNoneSpec.fn H ds = { results := [.lit (.bool true)], args := ds } := by
 have e : Tryz.f3.params.toList.length = 2 := by kernel_rfl
 rw [e] at hl;rcases ds with _ | ⟨d0, _ | ⟨d1, _ | ⟨d2, r⟩⟩⟩ <;> first | rfl | (simp only [List.length_cons, List.length_nil] at hl; omega)
theorem plain [A8] (xs : List D) (h : F5 Tryz.prog Tryz.f3.params.toList xs) : CY ts 1 (.row (.int 0 :: xs)) = .row [.int 1, .bool true] := by
 obtain ⟨hl, hc⟩ := OG (ks := [.slice 5, .bool]) h (by kernel_rfl)
 match xs, hl, hc with
 | [v0, v1], _, hc =>
  obtain ⟨b, hb⟩ := (show Gq (Env.of Tryz.prog).kinds 9 .bool v1 from hc 1 _ rfl).toB
  subst hb;exact law v0 b
theorem lifted (os : Os) (started : os.Started) (H : Type) (enc : TypeId × Value → H) :
  ReturnsInHanded {} Tryz.checked os 3 .any (fun w args => (Rows.streamNoneSpec.pre enc Tryz.prog Tryz.f3 Rows.streamNoneRow.domain false w args ∧ laidMetH Tryz.prog Rows.streamNoneRow.laid w) ∧ sizedMet enc Tryz.prog Tryz.f3 (OpenSpec.ofChange Rows.streamNoneSpec) false w args) (Rows.streamNoneSpec.post enc Tryz.prog Tryz.f3 false true false false) := by
 obtain ⟨inst⟩ := OE
 exact Jf (X := fun w _ => laidMetH Tryz.prog Rows.streamNoneRow.laid w) (fun _ _ _ hh h => h.of_heap hh) (C := Tryz.checked) (d := d1 E0) (T := t1) (keys := []) (N := 20000) (tb := 4) (L := [5]) own started (by kernel_rfl) Tryz.func3
  (ChangeSpec.witness_shaped (enc := enc) (C := Tryz.checked) (os := os) (X := fun w _ => laidMetH Tryz.prog Rows.streamNoneRow.laid w) false (World.laidAll Tryz.prog os Rows.streamNoneRow.laid) #[.slice none 0 0, .bool false] 8 (World.laidAll_os _ _ _)
   (World.shaped_of_ZipB (by kernel_rfl) (by kernel_rfl)) (by kernel_rfl) (by kernel_rfl) (by kernel_rfl)
   (by rw [MakeChecks.laidMetH_plain _ _ _ (by kernel_rfl)]; exact laidMet_laidAll _ (by kernel_rfl) (by kernel_rfl)))
  (by kernel_rfl) readable rfl (says H) (by kernel_rfl) (by kernel_rfl) (okE _ _) v1 (fun x => Ej lt rfl x) c1.chk (by kernel_rfl) rfl (by kernel_rfl) plain
theorem over : Rows.streamNoneRow.holds Tryz.pinned (OpenSpec.ofChange Rows.streamNoneSpec) :=
 OpenClaim.holds_of_wide 3 Tryz.f3 rfl rfl rfl rfl rfl rfl rfl ⟨rfl, rfl, rfl, rfl, rfl⟩ rfl rfl rfl rfl rfl (by kernel_rfl) Tryz.func3 (by kernel_rfl)
  (of_decide_eq_true (by kernel_rfl)) (by unfold Func.isWrapper; first | (rw [if_pos (by decide +kernel)]; kernel_rfl) | (rw [if_neg (by decide +kernel)]; exact ⟨rfl, rfl⟩))
  (fun os started H enc _ => lifted os started H enc)
theorem Q5 : Rows.StreamNoneCardSaid :=
 Claim7.holds_tied_plain_at .later [] [.data, .data, .data, .data, .pinned] true (true, "373d0e898e63531160bbfca42b175bf2bce56cf2a1aa547cdc9eeae4636c84fb") true
  over (fun _ h => by cases h) (by kernel_rfl) (fun _ h => by cases h) streamNone_row_tie rfl ⟨rfl, rfl⟩ (by kernel_rfl) rfl
  (fun f fn hf hfn => by
   obtain rfl : f = 3 := Option.some.inj ((show Tryz.prog.funcNamed "phrasebook/phrasebooklaw19.StreamNone" = some 3 by kernel_rfl).symm.trans hf) |>.symm
   obtain rfl : fn = Tryz.f3 := (Option.some.inj (Tryz.func3.symm.trans hfn)).symm
   exact ⟨by kernel_rfl, fun j t ht => by
    have hall : (Tryz.f3.params.toList.all fun u => !Tryz.prog.wantsStandIn u) = true := by kernel_rfl
    have hm : t ∈ Tryz.f3.params.toList := by simpa using Array.mem_of_getElem? ht
    exact (show Tryz.prog.wantsStandIn t = false by simpa using List.all_eq_true.1 hall t hm)⟩)
  (by kernel_rfl)
theorem proved : Rows.StreamNoneCardSaid := Q5
end Go.Proofs.YtdnicaeefjefdaaGreatDoor.streamNone

