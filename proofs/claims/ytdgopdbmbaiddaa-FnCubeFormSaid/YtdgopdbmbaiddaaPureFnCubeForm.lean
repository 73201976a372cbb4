/- For every code: the form of cubes of the drawn number is the reference's, it has the value 4 at the place of four ones, and it is smooth, or neither gives a form. No conditions. -/
import Derived.Test.YtdgopdbmbaiddaaLBase
import Derived.Test.YtdgopdbmbaiddaaLCount
import Derived.Test.YtdgopdbmbaiddaaLCubes
import Derived.Test.YtdgopdbmbaiddaaLCubes1
import Derived.Test.YtdgopdbmbaiddaaLDraw
import Derived.Test.YtdgopdbmbaiddaaLDraw2
import Derived.Test.YtdgopdbmbaiddaaLList2
import Derived.Test.YtdgopdbmbaiddaaLPrim
import Derived.Test.YtdgopdbmbaiddaaLSmooth
import Derived.Test.YtdgopdbmbaiddaaLSmooth1
import Derived.Test.YtdgopdbmbaiddaaLTwice1
import Derived.Test.YtdgopdbmbaiddaaPAx2
import Derived.Test.YtdgopdbmbaiddaaPAx3
import Derived.Test.YtdgopdbmbaiddaaPAx5
import Derived.Test.YtdgopdbmbaiddaaPAx6
import Derived.Test.YtdgopdbmbaiddaaPAx7
import Derived.Test.YtdgopdbmbaiddaaPAx8
import Derived.Test.YtdgopdbmbaiddaaWMore
namespace Go.Proofs.Ytdgopdbmbaiddaa.PA
open Go.RowKit Go.Proofs.YtdgopdbmbaiddaaW.PrintWords Go.Proofs.YtdgopdbmbaiddaaW.PrintLast Go.Proofs.YtdgopdbmbaiddaaW.PrintMore
set_option linter.unusedVariables false
set_option linter.unusedSimpArgs false

theorem cube_slope (a b c d : Int) : xSl cubeF [a, b, c, d] 0 0 0 tripL = 3 * (a * a) ∧ xSl cubeF [a, b, c, d] 1 0 0 tripL = 3 * (b * b) ∧ xSl cubeF [a, b, c, d] 2 0 0 tripL = 3 * (c * c) ∧ xSl cubeF [a, b, c, d] 3 0 0 tripL = 3 * (d * d) := by
  refine ⟨?_, ?_, ?_, ?_⟩ <;> simp [xSl, xadd, tripL, cubeF, rd] <;> omega
theorem cube_ok {p : Nat} (hp : primeB (p : Int) = true) (n : Nat) (c : Int) (hn : n ≤ 3) : okP p cubeF (placeRow p n c) = true := by
  have hb := prime_bd hp
  have h3 : (3 : Int) % p = 3 := Int.emod_eq_of_lt (by omega) (by omega)
  have key : slopeB p cubeF (placeRow p n c) = false := by
    rcases (by omega : n = 0 ∨ n = 1 ∨ n = 2 ∨ n = 3) with rfl | rfl | rfl | rfl
    · obtain ⟨h, -, -, -⟩ := cube_slope 1 ((c / p / p) % p) ((c / p) % p) (c % p)
      have e : xSl cubeF (placeRow p 0 c) 0 0 0 tripL = 3 * (1 * 1) := h
      rw [slopeB, e]; simp [h3]
    · obtain ⟨-, h, -, -⟩ := cube_slope 0 1 ((c / p) % p) (c % p)
      have e : xSl cubeF (placeRow p 1 c) 1 0 0 tripL = 3 * (1 * 1) := h
      rw [slopeB, e]; simp [h3]
    · obtain ⟨-, -, h, -⟩ := cube_slope 0 0 1 (c % p)
      have e : xSl cubeF (placeRow p 2 c) 2 0 0 tripL = 3 * (1 * 1) := h
      rw [slopeB, e]; simp [h3]
    · obtain ⟨-, -, -, h⟩ := cube_slope 0 0 0 1
      have e : xSl cubeF (placeRow p 3 c) 3 0 0 tripL = 3 * (1 * 1) := h
      rw [slopeB, e]; simp [h3]
  rw [okP, key]; simp
theorem cube_smooth (p : Nat) (hp : primeB (p : Int) = true) : smoothP p cubeF = true := by
  rw [smoothP, cubeF_nums hp, Bool.true_and, Int.toNat_natCast, List.all_eq_true]
  intro a ha
  obtain ⟨n, c, hn, hc, rfl⟩ := places_mem ha
  exact cube_ok hp n c hn
theorem DrawCubeForm_ev (l : List Int) (h : ∀ x ∈ l, (Lit.int .u8 x).wf = true) : ∃ v, Ev (fun k => spec_DrawCubeForm.f k l) v ∧ (v = 7 ∨ v = 11 ∨ v = 13 ∨ v = 17 ∨ v = 19 ∨ v = 23 ∨ v = 29 ∨ v = 31 ∨ v = 9 ∨ v = 5) := by
  obtain ⟨b, hb, hok⟩ := l6Open_eq l h
  obtain ⟨v, hv, hc⟩ := l92Prime_ev b hok 0 (by omega) (by omega)
  refine ⟨v, ?_, hc⟩
  unfold spec_DrawCubeForm.f
  refine Ev.bind (Ev.k hb) (Ev.bind hv (Ev.now _))
/-- what stands behind the draw -/
def formRest (k : Nat) (t270 : Int) : Option Bool := (impl_CubeForm.f k t270).bind fun bt271 => ((spec_CubeForm.f k t270).bind fun bt275 => (if (bt271.2 != bt275.2) = true then (laws_FnCubeForm.j0 k t270 bt271.1 bt271.2 bt275.1 bt275.2 true) else ((laws_sameInts.f k bt271.1 bt275.1).bind fun t279 => (if t279 = true then (laws_FnCubeForm.j0 k t270 bt271.1 bt271.2 bt275.1 bt275.2 (!bt271.2)) else (laws_FnCubeForm.j0 k t270 bt271.1 bt271.2 bt275.1 bt275.2 true)))))
theorem form_yes (p : Nat) (hp : primeB (p : Int) = true) (h1 : impl_CubeForm.f 60 p = some (cubeF, true)) (h2 : spec_CubeForm.f 60 p = some (cubeF, true)) (h3 : valueP p cubeF [1, 1, 1, 1] = (4, true)) : Ev (fun k => formRest k p) true := by
  have e1 : Ev (fun k => impl_CubeForm.f k p) (cubeF, true) := Ev.of (impl_CubeForm.mono p) h1
  have e2 : Ev (fun k => spec_CubeForm.f k p) (cubeF, true) := Ev.of (spec_CubeForm.mono p) h2
  have e3 := iFormValue_ev p cubeF [1, 1, 1, 1]
  rw [h3] at e3
  unfold formRest
  refine Ev.bind e1 (Ev.bind e2 (Ev.no (by simp) (Ev.bind (sameInts_ev cubeF cubeF (by decide)) (Ev.yes (by simp) ?_))))
  refine Ev.step (f := fun k => (impl_FormValue.f k p cubeF [1, 1, 1, 1]).bind fun bt284 => (if bt284.2 = true then (if bt284.1 = 4 then ((impl_FormSmooth.f p cubeF).bind fun t286 => (some t286)) else (some false)) else (some false))) (fun k => ?_) ?_
  · rw [laws_FnCubeForm.j0, if_neg (by simp)]
  · refine Ev.bind e3 (Ev.yes rfl (Ev.yes rfl (Ev.bind (Ev.k (iFormSmooth_eq p cubeF)) ?_)))
    rw [cube_smooth p hp]
    exact Ev.now true
theorem FnCubeForm_ev (l : List Int) (h : ∀ x ∈ l, (Lit.int .u8 x).wf = true) : Ev (fun k => laws_FnCubeForm.f k l) true := by
  unfold laws_FnCubeForm.f
  refine Ev.ite (fun _ => Ev.now _) (fun hl => ?_)
  obtain ⟨v, hv, hc⟩ := DrawCubeForm_ev l h
  refine Ev.bind hv ?_
  show Ev (fun k => formRest k v) true
  have no : ∀ v : Int, formRest 60 v = some true → Ev (fun k => formRest k v) true := fun v hv => Ev.of (g := fun k => formRest k v) (fun k => by
    unfold formRest
    refine LeO.bind (impl_CubeForm.mono _ _) fun a => LeO.bind (spec_CubeForm.mono _ _) fun b => LeO.ite (laws_FnCubeForm.mono_l k _ _ _ _ _ _) (LeO.bind (laws_sameInts.mono _ _ _) fun c => LeO.ite (laws_FnCubeForm.mono_l k _ _ _ _ _ _) (laws_FnCubeForm.mono_l k _ _ _ _ _ _))) hv
  rcases hc with rfl | rfl | rfl | rfl | rfl | rfl | rfl | rfl | rfl | rfl
  · exact form_yes 7 (by decide) (by decide +kernel) (by decide +kernel) (by decide +kernel)
  · exact form_yes 11 (by decide) (by decide +kernel) (by decide +kernel) (by decide +kernel)
  · exact form_yes 13 (by decide) (by decide +kernel) (by decide +kernel) (by decide +kernel)
  · exact form_yes 17 (by decide) (by decide +kernel) (by decide +kernel) (by decide +kernel)
  · exact form_yes 19 (by decide) (by decide +kernel) (by decide +kernel) (by decide +kernel)
  · exact form_yes 23 (by decide) (by decide +kernel) (by decide +kernel) (by decide +kernel)
  · exact form_yes 29 (by decide) (by decide +kernel) (by decide +kernel) (by decide +kernel)
  · exact form_yes 31 (by decide) (by decide +kernel) (by decide +kernel) (by decide +kernel)
  · exact no 9 (by decide +kernel)
  · exact no 5 (by decide +kernel)

end Go.Proofs.Ytdgopdbmbaiddaa.PA

namespace Go.Proofs.Ytdgopdbmbaiddaa.Pure
open Go.RowKit Go.Proofs.Ytdgopdbmbaiddaa.PA Go.Proofs.YtdgopdbmbaiddaaW.PrintWords Go.Proofs.YtdgopdbmbaiddaaW.PrintLast
theorem FnCubeForm : laws_FnCubeForm.Pure := by
  intro l
  intros
  first | exact (FnCubeForm_ev l).rounds | exact (FnCubeForm_ev l (by assumption)).rounds
end Go.Proofs.Ytdgopdbmbaiddaa.Pure
