/- The plain law of PromotionStabilizers. -/
import Derived.Test.YtbmdbeboegdcaaaPsS0
import Derived.Test.YtbmdbeboegdcaaaPsS1
import Derived.Test.YtbmdbeboegdcaaaPsS2
import Derived.Test.YtbmdbeboegdcaaaPsS3
import Derived.Test.YtbmdbeboegdcaaaPsS4
namespace Go.Proofs.Ytbmdbeboegdcaaa.Pure
set_option linter.unusedVariables false
open Go.RowKit Go.Proofs.Ytbmdbeboegdcaaa.PPg Go.Proofs.YtbmdbeboegdcaaaW.PrintWords Go.Proofs.YtbmdbeboegdcaaaW.PrintLast
theorem inside (a0 a1 : Int) (h : (1 ≤ a0 ∧ a0 ≤ 10) ∧ (1 ≤ a1 ∧ a1 ≤ 10) ∧ wrap64 (a0 * a1) ≤ 10) : laws_FnExactPromotionStabilizers.f 20000 a0 a1 = some true := by
  obtain ⟨⟨h1, h2⟩, ⟨h3, h4⟩, h5⟩ := h
  have c0 : a0 = 1 ∨ a0 = 2 ∨ a0 = 3 ∨ a0 = 4 ∨ a0 = 5 ∨ a0 = 6 ∨ a0 = 7 ∨ a0 = 8 ∨ a0 = 9 ∨ a0 = 10 := by omega
  have c1 : a1 = 1 ∨ a1 = 2 ∨ a1 = 3 ∨ a1 = 4 ∨ a1 = 5 ∨ a1 = 6 ∨ a1 = 7 ∨ a1 = 8 ∨ a1 = 9 ∨ a1 = 10 := by omega
  clear h1 h2 h3 h4
  rcases c0 with rfl | rfl | rfl | rfl | rfl | rfl | rfl | rfl | rfl | rfl <;> rcases c1 with rfl | rfl | rfl | rfl | rfl | rfl | rfl | rfl | rfl | rfl <;>
    first
    | exact absurd h5 (by decide +kernel)
    | with_reducible exact in1_1
    | with_reducible exact in1_2
    | with_reducible exact in1_3
    | with_reducible exact in1_4
    | with_reducible exact in1_5
    | with_reducible exact in1_6
    | with_reducible exact in1_7
    | with_reducible exact in1_8
    | with_reducible exact in1_9
    | with_reducible exact in1_10
    | with_reducible exact in2_1
    | with_reducible exact in2_2
    | with_reducible exact in2_3
    | with_reducible exact in2_4
    | with_reducible exact in2_5
    | with_reducible exact in3_1
    | with_reducible exact in3_2
    | with_reducible exact in3_3
    | with_reducible exact in4_1
    | with_reducible exact in4_2
    | with_reducible exact in5_1
    | with_reducible exact in5_2
    | with_reducible exact in6_1
    | with_reducible exact in7_1
    | with_reducible exact in8_1
    | with_reducible exact in9_1
    | with_reducible exact in10_1
theorem FnExactPromotionStabilizers : laws_FnExactPromotionStabilizers.Pure := by
  intro a0 a1 _ _
  refine ⟨20000, ?_⟩
  by_cases h : (1 ≤ a0 ∧ a0 ≤ 10) ∧ (1 ≤ a1 ∧ a1 ≤ 10) ∧ wrap64 (a0 * a1) ≤ 10
  · exact inside a0 a1 h
  · exact outside a0 a1 h
end Go.Proofs.Ytbmdbeboegdcaaa.Pure
