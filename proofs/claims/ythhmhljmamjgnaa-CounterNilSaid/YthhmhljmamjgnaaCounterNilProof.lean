/- What is proved: the given statement Rows.CounterNilSaid: at every input the law CounterNil returns true and leaves what its arguments reach as it was. Conditions: none beyond those that the given row itself states. The road: the evaluator of the texts YthhmhljmamjgnaaAe.. is run by the kernel over the program with the arguments unknown; its soundness theorem turns that run into the model's own. -/
import Derived.Test.YthhmhljmamjgnaaRows
import Derived.Test.YthhmhljmamjgnaaAeE
import Derived.KernelRfl
import Derived.JoinedOf
import Derived.Handed
namespace Go.Proofs.Ythhmhljmamjgnaa.counterNil
theorem own : ownKnob Try.prog.godebug = none := by kernel_rfl

theorem okE : AE.OK (AE.Env.of Try.prog) := AE.OK.of (U := AE.noUnk) (P := Try.prog) (Checked.mixed Try.checked) (by kernel_rfl)

theorem readable : ∀ t ∈ Try.f7.params.toList, Try.prog.readableRec t = true ∧ t < Try.prog.types.size := by
  have h : (Try.f7.params.toList.all fun t => Try.prog.readableRec t && decide (t < Try.prog.types.size)) = true := by kernel_rfl
  intro t ht
  have q := List.all_eq_true.mp h t ht
  rw [Bool.and_eq_true, decide_eq_true_eq] at q
  exact q

theorem says (H : Type) (ds : List (DataW H)) (hl : ds.length = Try.f7.params.toList.length) : Rows.counterNilSpec.fn H ds = { results := [.lit (.bool true)], args := ds } := by
  have e : Try.f7.params.toList.length = 3 := by kernel_rfl
  rw [e] at hl
  rcases ds with _ | ⟨d0, _ | ⟨d1, _ | ⟨d2, _ | ⟨d3, r⟩⟩⟩⟩ <;> first | rfl | (simp only [List.length_cons, List.length_nil] at hl; omega)

/-- the run -/
theorem runs : AE.lawCheck (AE.Env.of Try.prog) 9000 7 Try.f7.params.toList (.split (.lss (.c 60) (.lenS 0)) .leaf (.split (.lss (.c 10) (.lenL 10)) .leaf .leaf)) = true := by kernel_rfl

theorem lifted (os : Os) (started : os.Started) (H : Type) (enc : TypeId × Value → H) :
    ReturnsInHanded {} Try.checked os 7 .any (Rows.counterNilSpec.pre6 enc Try.prog Try.f7 Rows.counterNilRow.domain false) (Rows.counterNilSpec.post enc Try.prog Try.f7 false true false false) :=
  AE.law_lifted (C := Try.checked) (tb := 4) own started (by kernel_rfl) Try.func7
    (ChangeSpec.witness6 (enc := enc) (C := Try.checked) false ⟨#[], #[.string .empty, .agg #[.string .empty, .string .empty, .int .i64 0, .string .empty, .string .empty, .string .empty, .int .i64 0, .int .i64 0, .int .i64 0], .slice none 0 0], []⟩ 8 (by kernel_rfl) (by kernel_rfl) (by kernel_rfl) (by kernel_rfl))
    (by kernel_rfl) readable rfl (says H) (by kernel_rfl) (by kernel_rfl) okE runs

theorem over : Rows.counterNilRow.holds Try.pinned (OpenSpec.ofChange Rows.counterNilSpec) :=
  OpenClaim.holds_of_wide 7 Try.f7 rfl rfl rfl rfl rfl rfl rfl ⟨rfl, rfl, rfl, rfl, rfl⟩ rfl rfl rfl rfl rfl (by kernel_rfl) Try.func7 (by kernel_rfl)
    (of_decide_eq_true (by kernel_rfl)) (by unfold Func.isWrapper; first | (rw [if_pos (by decide +kernel)]; kernel_rfl) | (rw [if_neg (by decide +kernel)]; exact ⟨rfl, rfl⟩))
    (fun os started H enc _ => lifted os started H enc)

theorem proved : Rows.CounterNilSaid := over
end Go.Proofs.Ythhmhljmamjgnaa.counterNil
