/- For every whole number p the program's CubeForm returns what the reference's returns, in memory of its own. No conditions. -/
import Derived.Test.YtpmleelfifjcaaaPFnExactCubeFormx2
namespace Go.Proofs.Ytpmleelfifjcaaa.Pure
open Go.RowKit Go.Proofs.Ytpmleelfifjcaaa.PFnExactCubeForm Go.Proofs.YtpmleelfifjcaaaW.PrintWords Go.Proofs.YtpmleelfifjcaaaW.PrintLast

theorem isPrime_not (a : Int) (h : a ≠ 7 ∧ a ≠ 11 ∧ a ≠ 13 ∧ a ≠ 17 ∧ a ≠ 19 ∧ a ≠ 23 ∧ a ≠ 29 ∧ a ≠ 31) : impl_isPrime.f 20 a = some false ∧ impl_isPrime.f 19 a = some false := by
  obtain ⟨h1, h2, h3, h4, h5, h6, h7, h8⟩ := h
  simp [impl_isPrime.f, slices_Contains_int_int.f, slices_Index_int_int.f, slices_Index_int_int.l0, rd, wrap64, h1, h2, h3, h4, h5, h6, h7, h8]

theorem no_case (a : Int) (h : a ≠ 7 ∧ a ≠ 11 ∧ a ≠ 13 ∧ a ≠ 17 ∧ a ≠ 19 ∧ a ≠ 23 ∧ a ≠ 29 ∧ a ≠ 31) : laws_FnExactCubeForm.f 20 a = some true := by
  have hp := isPrime_not a h
  obtain ⟨h1, h2, h3, h4, h5, h6, h7, h8⟩ := h
  have hi : impl_CubeForm.f 20 a = some ([], false) := by
    simp [impl_CubeForm.f, hp.1]
  have hi2 : impl_CubeForm.f 19 a = some ([], false) := by
    simp [impl_CubeForm.f, hp.2]
  have hs : spec_CubeForm.f 20 a = some ([], false) := by
    simp [spec_CubeForm.f, spec_PrimeIn.f, h1, h2, h3, h4, h5, h6, h7, h8]
  simp [laws_FnExactCubeForm.f, hi, hi2, hs, laws_eqIntS.f, laws_eqIntS.l0, laws_FnExactCubeForm.j0, laws_FnExactCubeForm.j1, laws_markIntS.f, laws_markIntS.l0, laws_heldIntS.f, laws_heldIntS.l0]

theorem FnExactCubeForm : laws_FnExactCubeForm.Pure := by
  intro a _
  by_cases h : a ≠ 7 ∧ a ≠ 11 ∧ a ≠ 13 ∧ a ≠ 17 ∧ a ≠ 19 ∧ a ≠ 23 ∧ a ≠ 29 ∧ a ≠ 31
  · exact ⟨20, no_case a h⟩
  · have : a = 7 ∨ a = 11 ∨ a = 13 ∨ a = 17 ∨ a = 19 ∨ a = 23 ∨ a = 29 ∨ a = 31 := by omega
    rcases this with rfl | rfl | rfl | rfl | rfl | rfl | rfl | rfl <;> exact ⟨60, by decide +kernel⟩

end Go.Proofs.Ytpmleelfifjcaaa.Pure
