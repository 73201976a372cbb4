/- For every code: the drawn form is one just when the reference says so, and its values at the first and the last corner are its first and its last number. No conditions. -/
import Derived.Test.YtpmleelfifjcaaaLBase
import Derived.Test.YtpmleelfifjcaaaLDraw
import Derived.Test.YtpmleelfifjcaaaLDrawForm
import Derived.Test.YtpmleelfifjcaaaLPrim
import Derived.Test.YtpmleelfifjcaaaLRow
import Derived.Test.YtpmleelfifjcaaaLTwice
import Derived.Test.YtpmleelfifjcaaaLVal
import Derived.Test.YtpmleelfifjcaaaPAx2
import Derived.Test.YtpmleelfifjcaaaPAx3
import Derived.Test.YtpmleelfifjcaaaPAx4
import Derived.Test.YtpmleelfifjcaaaWMore
namespace Go.Proofs.Ytpmleelfifjcaaa.PA
open Go.RowKit Go.Proofs.YtpmleelfifjcaaaW.PrintWords Go.Proofs.YtpmleelfifjcaaaW.PrintLast Go.Proofs.YtpmleelfifjcaaaW.PrintMore
set_option linter.unusedVariables false
set_option linter.unusedSimpArgs false

theorem DrawFormIn_ev (l : List Int) (h : ∀ x ∈ l, (Lit.int .u8 x).wf = true) : ∃ p f, Ev (fun k => spec_DrawFormIn.f k l) (p, f) ∧ f.length ≤ 20 := by
  obtain ⟨b, hb, hok⟩ := l6Open_eq l h
  obtain ⟨v, hv, hc⟩ := l92Prime_ev b hok 0 (by omega) (by omega)
  obtain ⟨f, s1, hf, hl, _, _⟩ := l92Form_ev b hok v (0 + 1) (by omega) (by omega) (by omega)
  refine ⟨v, f, ?_, hl⟩
  unfold spec_DrawFormIn.f
  exact Ev.bind (Ev.k hb) (Ev.bind hv (Ev.bind hf (Ev.now _)))
theorem corner (f : List Int) : xval f [1, 0, 0, 0] = rd f 0 ∧ xval f [0, 0, 0, 1] = rd f 19 := by
  constructor <;> simp [xval, xs0, xs1, xs2, tri, rd]
theorem corner_place {p : Int} (hp : primeB p = true) : placeB p [1, 0, 0, 0] = true ∧ placeB p [0, 0, 0, 1] = true := by
  rcases primeB_cases hp with rfl | rfl | rfl | rfl | rfl | rfl | rfl | rfl <;> decide
theorem FnForm_ev (l : List Int) (h : ∀ x ∈ l, (Lit.int .u8 x).wf = true) : Ev (fun k => laws_FnForm.f k l) true := by
  unfold laws_FnForm.f
  refine Ev.ite (fun _ => Ev.now _) (fun hl => ?_)
  obtain ⟨p, f, hd, hfl⟩ := DrawFormIn_ev l h
  refine Ev.bind hd (Ev.bind (Ev.k (iFormIn_eq p f)) (Ev.bind (FormIn_ev p f (by omega)) ?_))
  refine Ev.no (by simp) ?_
  cases hf : numsB p f 20
  · refine Ev.step (f := fun _ => some true) (fun k => ?_) (Ev.now _)
    rw [laws_FnForm.j0, if_pos (by rfl)]; rfl
  · obtain ⟨hp, hlen, hr⟩ := numsB_prime hf
    have hb := prime_bd hp
    have v1 := iFormValue_ev p f [1, 0, 0, 0]
    have v2 := iFormValue_ev p f [0, 0, 0, 1]
    rw [valueP, if_pos hf, if_pos (corner_place hp).1, (corner f).1] at v1
    rw [valueP, if_pos hf, if_pos (corner_place hp).2, (corner f).2] at v2
    have r1 := rd_range hf 0 (by omega) (by omega)
    have r2 := rd_range hf 19 (by omega) (by omega)
    rw [Int.emod_eq_of_lt r1.1 r1.2] at v1
    rw [Int.emod_eq_of_lt r2.1 r2.2] at v2
    refine Ev.step (f := fun k => (impl_FormValue.f k p f [1, 0, 0, 0]).bind fun bt184 => ((impl_FormValue.f k p f [0, 0, 0, 1]).bind fun bt189 => (if bt184.2 = true then (if bt189.2 = true then (if 0 < (f.length : Int) then (if bt184.1 = (rd f 0) then (if 19 < (f.length : Int) then (some (bt189.1 == (rd f 19))) else (none)) else (some false)) else (none)) else (some false)) else (some false)))) (fun k => ?_) (Ev.bind v1 (Ev.bind v2 ?_))
    · rw [laws_FnForm.j0, if_neg (by simp)]
    · refine Ev.yes rfl (Ev.yes rfl (Ev.yes (by omega) (Ev.yes rfl (Ev.yes (by omega) ?_))))
      simpa using Ev.now true

end Go.Proofs.Ytpmleelfifjcaaa.PA

namespace Go.Proofs.Ytpmleelfifjcaaa.Pure
open Go.RowKit Go.Proofs.Ytpmleelfifjcaaa.PA Go.Proofs.YtpmleelfifjcaaaW.PrintWords Go.Proofs.YtpmleelfifjcaaaW.PrintLast
theorem FnForm : laws_FnForm.Pure := by
  intro l
  intros
  first | exact (FnForm_ev l).rounds | exact (FnForm_ev l (by assumption)).rounds
end Go.Proofs.Ytpmleelfifjcaaa.Pure
