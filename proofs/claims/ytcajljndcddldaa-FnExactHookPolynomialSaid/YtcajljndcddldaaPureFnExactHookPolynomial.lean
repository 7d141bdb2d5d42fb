/- The exact values of the function HookPolynomial: for all arguments that the program takes, and for all that it refuses, the law that compares the program with its specification answers true. -/
import Derived.Test.YtcajljndcddldaaPDv2x20
namespace Go.Proofs.Ytcajljndcddldaa.Pure
open Go.RowKit Go.Proofs.Ytcajljndcddldaa.PDv2 Go.Proofs.YtcajljndcddldaaW.PrintWords Go.Proofs.YtcajljndcddldaaW.PrintLast
set_option maxRecDepth 100000
theorem hookOut (a0 a1 : Int) (h : ¬ ((1 ≤ a0 ∧ a0 ≤ 10) ∧ (1 ≤ a1 ∧ a1 ≤ 10) ∧ wrap64 (a0 * a1) ≤ 10)) : laws_FnExactHookPolynomial.f 9 a0 a1 = some true := by
  have hs : spec_shSides.f a0 a1 = some false := by
    unfold spec_shSides.f spec_l1In.f
    by_cases h1 : a0 ≥ 1 <;> by_cases h2 : a0 ≤ 10 <;> by_cases h3 : a1 ≥ 1 <;> by_cases h4 : a1 ≤ 10 <;> simp [h1, h2, h3, h4] <;> omega
  have hi : impl_areSides.f a0 a1 10 = some false := by
    unfold impl_areSides.f impl_within.f
    by_cases h1 : 1 ≤ a0 <;> by_cases h2 : a0 ≤ 10 <;> by_cases h3 : 1 ≤ a1 <;> by_cases h4 : a1 ≤ 10 <;> simp [h1, h2, h3, h4] <;> omega
  have e1 : ∀ k, spec_HookPolynomial.f k a0 a1 = some ([], false) := fun k => by unfold spec_HookPolynomial.f; rw [hs]; rfl
  have e2 : ∀ k, impl_HookPolynomial.f k a0 a1 = some ([], false) := fun k => by unfold impl_HookPolynomial.f; rw [hi]; rfl
  simp only [laws_FnExactHookPolynomial.f, laws_FnExactHookPolynomial.j0, laws_FnExactHookPolynomial.j1, e1, e2, Option.bind_some]
  rfl
theorem hook1_1 : laws_FnExactHookPolynomial.f 10000 1 1 = some true := by decide +kernel
theorem hook1_2 : laws_FnExactHookPolynomial.f 10000 1 2 = some true := by decide +kernel
theorem hook1_3 : laws_FnExactHookPolynomial.f 10000 1 3 = some true := by decide +kernel
theorem hook1_4 : laws_FnExactHookPolynomial.f 10000 1 4 = some true := by decide +kernel
theorem hook1_5 : laws_FnExactHookPolynomial.f 10000 1 5 = some true := by decide +kernel
theorem hook1_6 : laws_FnExactHookPolynomial.f 10000 1 6 = some true := by decide +kernel
theorem hook1_7 : laws_FnExactHookPolynomial.f 10000 1 7 = some true := by decide +kernel
theorem hook1_8 : laws_FnExactHookPolynomial.f 10000 1 8 = some true := by decide +kernel
theorem hook1_9 : laws_FnExactHookPolynomial.f 10000 1 9 = some true := by decide +kernel
theorem hook1_10 : laws_FnExactHookPolynomial.f 10000 1 10 = some true := by decide +kernel
theorem hook2_1 : laws_FnExactHookPolynomial.f 10000 2 1 = some true := by decide +kernel
theorem hook2_2 : laws_FnExactHookPolynomial.f 10000 2 2 = some true := by decide +kernel
theorem hook2_3 : laws_FnExactHookPolynomial.f 10000 2 3 = some true := by decide +kernel
theorem hook2_4 : laws_FnExactHookPolynomial.f 10000 2 4 = some true := by decide +kernel
theorem hook2_5 : laws_FnExactHookPolynomial.f 10000 2 5 = some true := by decide +kernel
theorem hook3_1 : laws_FnExactHookPolynomial.f 10000 3 1 = some true := by decide +kernel
theorem hook3_2 : laws_FnExactHookPolynomial.f 10000 3 2 = some true := by decide +kernel
theorem hook3_3 : laws_FnExactHookPolynomial.f 10000 3 3 = some true := by decide +kernel
theorem hook4_1 : laws_FnExactHookPolynomial.f 10000 4 1 = some true := by decide +kernel
theorem hook4_2 : laws_FnExactHookPolynomial.f 10000 4 2 = some true := by decide +kernel
theorem hook5_1 : laws_FnExactHookPolynomial.f 10000 5 1 = some true := by decide +kernel
theorem hook5_2 : laws_FnExactHookPolynomial.f 10000 5 2 = some true := by decide +kernel
theorem hook6_1 : laws_FnExactHookPolynomial.f 10000 6 1 = some true := by decide +kernel
theorem hook7_1 : laws_FnExactHookPolynomial.f 10000 7 1 = some true := by decide +kernel
theorem hook8_1 : laws_FnExactHookPolynomial.f 10000 8 1 = some true := by decide +kernel
theorem hook9_1 : laws_FnExactHookPolynomial.f 10000 9 1 = some true := by decide +kernel
theorem hook10_1 : laws_FnExactHookPolynomial.f 10000 10 1 = some true := by decide +kernel
theorem hookIn (a0 a1 : Int) (h : (1 ≤ a0 ∧ a0 ≤ 10) ∧ (1 ≤ a1 ∧ a1 ≤ 10) ∧ wrap64 (a0 * a1) ≤ 10) : laws_FnExactHookPolynomial.f 10000 a0 a1 = some true := by
  obtain ⟨⟨h1, h2⟩, ⟨h3, h4⟩, h5⟩ := h
  have c0 : a0 = 1 ∨ a0 = 2 ∨ a0 = 3 ∨ a0 = 4 ∨ a0 = 5 ∨ a0 = 6 ∨ a0 = 7 ∨ a0 = 8 ∨ a0 = 9 ∨ a0 = 10 := by omega
  have c1 : a1 = 1 ∨ a1 = 2 ∨ a1 = 3 ∨ a1 = 4 ∨ a1 = 5 ∨ a1 = 6 ∨ a1 = 7 ∨ a1 = 8 ∨ a1 = 9 ∨ a1 = 10 := by omega
  clear h1 h2 h3 h4
  rcases c0 with rfl | rfl | rfl | rfl | rfl | rfl | rfl | rfl | rfl | rfl <;> rcases c1 with rfl | rfl | rfl | rfl | rfl | rfl | rfl | rfl | rfl | rfl <;>
    first
    | exact absurd h5 (by decide +kernel)
    | with_reducible exact hook1_1
    | with_reducible exact hook1_2
    | with_reducible exact hook1_3
    | with_reducible exact hook1_4
    | with_reducible exact hook1_5
    | with_reducible exact hook1_6
    | with_reducible exact hook1_7
    | with_reducible exact hook1_8
    | with_reducible exact hook1_9
    | with_reducible exact hook1_10
    | with_reducible exact hook2_1
    | with_reducible exact hook2_2
    | with_reducible exact hook2_3
    | with_reducible exact hook2_4
    | with_reducible exact hook2_5
    | with_reducible exact hook3_1
    | with_reducible exact hook3_2
    | with_reducible exact hook3_3
    | with_reducible exact hook4_1
    | with_reducible exact hook4_2
    | with_reducible exact hook5_1
    | with_reducible exact hook5_2
    | with_reducible exact hook6_1
    | with_reducible exact hook7_1
    | with_reducible exact hook8_1
    | with_reducible exact hook9_1
    | with_reducible exact hook10_1
theorem FnExactHookPolynomial : laws_FnExactHookPolynomial.Pure := by
  intro a0 a1 _ _
  by_cases h : (1 ≤ a0 ∧ a0 ≤ 10) ∧ (1 ≤ a1 ∧ a1 ≤ 10) ∧ wrap64 (a0 * a1) ≤ 10
  · exact ⟨10000, hookIn a0 a1 h⟩
  · exact ⟨9, hookOut a0 a1 h⟩

end Go.Proofs.Ytcajljndcddldaa.Pure
