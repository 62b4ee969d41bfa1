/- What is proved: the given statement Rows.MachineNilSaid: at every input the law MachineNil returns true and leaves what its arguments reach as it was. Conditions: none beyond those that the given row itself states. The road: the evaluator of the texts YtblbdipjchmehaaAe.. is run by the kernel over the program with the arguments unknown; its soundness theorem turns that run into the model's own. -/
import Derived.Test.YtblbdipjchmehaaRows
import Derived.Test.YtblbdipjchmehaaAeE
import Derived.KernelRfl
import Derived.JoinedOf
import Derived.Handed
namespace Go.Proofs.Ytblbdipjchmehaa.machineNil
theorem own : ownKnob Try.prog.godebug = none := by kernel_rfl

theorem okE : AE.OK (AE.Env.of Try.prog) := AE.OK.of (U := AE.noUnk) (P := Try.prog) (Checked.mixed Try.checked) (by kernel_rfl)

theorem readable : ∀ t ∈ Try.f3.params.toList, Try.prog.readableRec t = true ∧ t < Try.prog.types.size := by
  have h : (Try.f3.params.toList.all fun t => Try.prog.readableRec t && decide (t < Try.prog.types.size)) = true := by kernel_rfl
  intro t ht
  have q := List.all_eq_true.mp h t ht
  rw [Bool.and_eq_true, decide_eq_true_eq] at q
  exact q

theorem says (H : Type) (ds : List (DataW H)) (hl : ds.length = Try.f3.params.toList.length) : Rows.machineNilSpec.fn H ds = { results := [.lit (.bool true)], args := ds } := by
  have e : Try.f3.params.toList.length = 4 := by kernel_rfl
  rw [e] at hl
  rcases ds with _ | ⟨d0, _ | ⟨d1, _ | ⟨d2, _ | ⟨d3, _ | ⟨d4, r⟩⟩⟩⟩⟩ <;> first | rfl | (simp only [List.length_cons, List.length_nil] at hl; omega)

/-- the run -/
theorem runs : AE.lawCheck (AE.Env.of Try.prog) 13000 3 Try.f3.params.toList (.leaf) = true := by kernel_rfl

theorem lifted (os : Os) (started : os.Started) (H : Type) (enc : TypeId × Value → H) :
    ReturnsInHanded {} Try.checked os 3 .any (Rows.machineNilSpec.pre6 enc Try.prog Try.f3 Rows.machineNilRow.domain false) (Rows.machineNilSpec.post enc Try.prog Try.f3 false true false false) :=
  AE.law_lifted (C := Try.checked) (tb := 4) own started (by kernel_rfl) Try.func3
    (ChangeSpec.witness6 (enc := enc) (C := Try.checked) false ⟨#[], #[.int .i64 0, .int .i64 0, .string .empty, .string .empty], []⟩ 8 (by kernel_rfl) (by kernel_rfl) (by kernel_rfl) (by kernel_rfl))
    (by kernel_rfl) readable rfl (says H) (by kernel_rfl) (by kernel_rfl) okE runs

theorem over : Rows.machineNilRow.holds Try.pinned (OpenSpec.ofChange Rows.machineNilSpec) :=
  OpenClaim.holds_of_wide 3 Try.f3 rfl rfl rfl rfl rfl rfl rfl ⟨rfl, rfl, rfl, rfl, rfl⟩ rfl rfl rfl rfl rfl (by kernel_rfl) Try.func3 (by kernel_rfl)
    (of_decide_eq_true (by kernel_rfl)) (by unfold Func.isWrapper; first | (rw [if_pos (by decide +kernel)]; kernel_rfl) | (rw [if_neg (by decide +kernel)]; exact ⟨rfl, rfl⟩))
    (fun os started H enc _ => lifted os started H enc)

theorem proved : Rows.MachineNilSaid := over
end Go.Proofs.Ytblbdipjchmehaa.machineNil
