/- What is proved: the given statement Rows.UpgradeNoneSaid: at every input the law UpgradeNone returns true and leaves what its arguments reach as it was. Conditions: none beyond those that the given row itself states. The road: the evaluator of the texts YtpaklonjljncnaaGreatAe.. is run by the kernel over the program with the arguments unknown; its soundness theorem turns that run into the model's own. -/
import Derived.Test.YtpaklonjljncnaaGreatRows
import Derived.Test.YtpaklonjljncnaaGreatUpgradeNoneKnownC
import Derived.KernelRfl
import Derived.JoinedOf
import Derived.Handed
namespace Go.Proofs.YtpaklonjljncnaaGreat.upgradeNone
theorem own : ownKnob Tryz.prog.godebug = none := by kernel_rfl


theorem readable : ∀ t ∈ Tryz.f3.params.toList, Tryz.prog.readableRec t = true ∧ t < Tryz.prog.types.size := by
  have h : (Tryz.f3.params.toList.all fun t => Tryz.prog.readableRec t && decide (t < Tryz.prog.types.size)) = true := by kernel_rfl
  intro t ht
  have q := List.all_eq_true.mp h t ht
  rw [Bool.and_eq_true, decide_eq_true_eq] at q
  exact q

theorem says (H : Type) (ds : List (DataW H)) (hl : ds.length = Tryz.f3.params.toList.length) : Rows.upgradeNoneSpec.fn H ds = { results := [.lit (.bool true)], args := ds } := by
  have e : Tryz.f3.params.toList.length = 4 := by kernel_rfl
  rw [e] at hl
  rcases ds with _ | ⟨d0, _ | ⟨d1, _ | ⟨d2, _ | ⟨d3, _ | ⟨d4, r⟩⟩⟩⟩⟩ <;> first | rfl | (simp only [List.length_cons, List.length_nil] at hl; omega)

/-- the run -/
theorem runs : AE.lawCheck (AE.Env.ofO Tryz.prog l18) 200000 3 Tryz.f3.params.toList (.leaf) = true := by kernel_rfl

theorem lifted (os : Os) (started : os.Started) (H : Type) (enc : TypeId × Value → H) :
    ReturnsInHanded {} Tryz.checked os 3 .any (Rows.upgradeNoneSpec.pre6 enc Tryz.prog Tryz.f3 Rows.upgradeNoneRow.domain false) (Rows.upgradeNoneSpec.post enc Tryz.prog Tryz.f3 false true false false) :=
  AE.law_lifted (C := Tryz.checked) (tb := 4) own started (by kernel_rfl) Tryz.func3
    (ChangeSpec.witness6 (enc := enc) (C := Tryz.checked) false ⟨#[], #[.int .i64 0, .int .i64 0, .string .empty, .string .empty], []⟩ 8 (by kernel_rfl) (by kernel_rfl) (by kernel_rfl) (by kernel_rfl))
    (by kernel_rfl) readable rfl (says H) (by kernel_rfl) (by kernel_rfl) (okE _) v18 runs

theorem over : Rows.upgradeNoneRow.holds Tryz.pinned (OpenSpec.ofChange Rows.upgradeNoneSpec) :=
  OpenClaim.holds_of_wide 3 Tryz.f3 rfl rfl rfl rfl rfl rfl rfl ⟨rfl, rfl, rfl, rfl, rfl⟩ rfl rfl rfl rfl rfl (by kernel_rfl) Tryz.func3 (by kernel_rfl)
    (of_decide_eq_true (by kernel_rfl)) (by unfold Func.isWrapper; first | (rw [if_pos (by decide +kernel)]; kernel_rfl) | (rw [if_neg (by decide +kernel)]; exact ⟨rfl, rfl⟩))
    (fun os started H enc _ => lifted os started H enc)

theorem proved : Rows.UpgradeNoneSaid := over
end Go.Proofs.YtpaklonjljncnaaGreat.upgradeNone
