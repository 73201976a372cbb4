/- For every whole number p the program's CubeRoots returns what the reference's returns, in memory of its own. No conditions. -/
import Derived.Test.YtpmleelfifjcaaaPFnExactCubeRootsx2
namespace Go.Proofs.Ytpmleelfifjcaaa.Pure
open Go.RowKit Go.Proofs.Ytpmleelfifjcaaa.PFnExactCubeRoots Go.Proofs.YtpmleelfifjcaaaW.PrintWords Go.Proofs.YtpmleelfifjcaaaW.PrintLast

theorem isPrime_not (a : Int) (h : a ≠ 7 ∧ a ≠ 11 ∧ a ≠ 13 ∧ a ≠ 17 ∧ a ≠ 19 ∧ a ≠ 23 ∧ a ≠ 29 ∧ a ≠ 31) : impl_isPrime.f 20 a = some false ∧ impl_isPrime.f 19 a = some false := by
  obtain ⟨h1, h2, h3, h4, h5, h6, h7, h8⟩ := h
  simp [impl_isPrime.f, slices_Contains_int_int.f, slices_Index_int_int.f, slices_Index_int_int.l0, rd, wrap64, h1, h2, h3, h4, h5, h6, h7, h8]

theorem no_case (a : Int) (h : a ≠ 7 ∧ a ≠ 11 ∧ a ≠ 13 ∧ a ≠ 17 ∧ a ≠ 19 ∧ a ≠ 23 ∧ a ≠ 29 ∧ a ≠ 31) : laws_FnExactCubeRoots.f 20 a = some true := by
  have hp := isPrime_not a h
  obtain ⟨h1, h2, h3, h4, h5, h6, h7, h8⟩ := h
  have hi : impl_CubeRoots.f 20 a = some ([], false) := by
    simp [impl_CubeRoots.f, impl_cubeRoots.f, hp.1]
  have hi2 : impl_CubeRoots.f 19 a = some ([], false) := by
    simp [impl_CubeRoots.f, impl_cubeRoots.f, hp.2]
  have hs : spec_CubeRoots.f 20 a = some ([], false) := by
    simp [spec_CubeRoots.f, spec_PrimeIn.f, h1, h2, h3, h4, h5, h6, h7, h8]
  simp [laws_FnExactCubeRoots.f, hi, hi2, hs, laws_eqIntS.f, laws_eqIntS.l0, laws_FnExactCubeRoots.j0, laws_FnExactCubeRoots.j1, laws_markIntS.f, laws_markIntS.l0, laws_heldIntS.f, laws_heldIntS.l0]

theorem FnExactCubeRoots : laws_FnExactCubeRoots.Pure := by
  intro a _
  by_cases h : a ≠ 7 ∧ a ≠ 11 ∧ a ≠ 13 ∧ a ≠ 17 ∧ a ≠ 19 ∧ a ≠ 23 ∧ a ≠ 29 ∧ a ≠ 31
  · exact ⟨20, no_case a h⟩
  · have : a = 7 ∨ a = 11 ∨ a = 13 ∨ a = 17 ∨ a = 19 ∨ a = 23 ∨ a = 29 ∨ a = 31 := by omega
    rcases this with rfl | rfl | rfl | rfl | rfl | rfl | rfl | rfl <;> exact ⟨50, by decide +kernel⟩

end Go.Proofs.Ytpmleelfifjcaaa.Pure
