/- Plain laws of what the printed functions compute. No conditions beside those that each states. -/
import Derived.Test.YtpmleelfifjcaaaLBase
import Derived.Test.YtpmleelfifjcaaaLDraw
import Derived.Test.YtpmleelfifjcaaaLPrim
import Derived.Test.YtpmleelfifjcaaaPAx1
import Derived.Test.YtpmleelfifjcaaaPAx2
import Derived.Test.YtpmleelfifjcaaaWMore
namespace Go.Proofs.Ytpmleelfifjcaaa.PA
open Go.RowKit Go.Proofs.YtpmleelfifjcaaaW.PrintWords Go.Proofs.YtpmleelfifjcaaaW.PrintLast Go.Proofs.YtpmleelfifjcaaaW.PrintMore
set_option linter.unusedVariables false
set_option linter.unusedSimpArgs false

/-- the form of cubes' numbers -/
def cubeL : List Int := [1, 0, 0, 0, 0, 0, 0, 0, 0, 0, 1, 0, 0, 0, 0, 0, 1, 0, 0, 1]
theorem sCubeForm_ev (p : Int) : Ev (fun k => spec_CubeForm.f k p) (if primeB p = true then (cubeL, true) else ([], false)) := by
  refine Ev.of (spec_CubeForm.mono p) (k := 60) ?_
  unfold spec_CubeForm.f
  rw [PrimeIn_eq]
  cases primeB p
  · rfl
  · show spec_CubeForm.l0 60 [] 0 = some (cubeL, true)
    decide +kernel
theorem l92Form_l (b : List Int) (hb : bytesOk b) (p : Int) (hp : 1 ≤ p ∧ p ≤ 31) : ∀ (d i : Nat) (f : List Int) (s : Int), i + d = 20 → f.length = i → 0 ≤ s → s + 2 * d + 10 ≤ 1000000 → (∀ x ∈ f, 0 ≤ x ∧ x < p) →
    ∃ f' s', Ev (fun k => spec_l92Form.l0 k p f (i : Int) b s) (f', s') ∧ f'.length ≤ 20 ∧ s ≤ s' ∧ s' ≤ s + 2 * d + 1 ∧ (∀ x ∈ f', 0 ≤ x ∧ x < p)
  | 0, i, f, s, h, hf, h0, h1, hr => by
    obtain ⟨v, hv, hv0, hv1⟩ := pick_ev b hb s 24 h0 (by omega)
    by_cases hz : v = 0
    · refine ⟨f.take 19, s + 1, ?_, by simp; omega, by omega, by omega, fun x hx => hr x (List.mem_of_mem_take hx)⟩
      refine Ev.step (f := fun k => (spec_l6Rd_pick.f k b s 24).bind fun t => if t.1 = 0 then (if 19 ≤ (f.length : Int) then some (f.take (19 : Int).toNat, t.2) else none) else some (f, t.2)) (fun k => ?_) (Ev.bind hv ?_)
      · rw [spec_l92Form.l0, if_neg (by omega)]
      · exact Ev.yes hz (Ev.yes (by omega) (Ev.now _))
    · refine ⟨f, s + 1, ?_, by omega, by omega, by omega, hr⟩
      refine Ev.step (f := fun k => (spec_l6Rd_pick.f k b s 24).bind fun t => if t.1 = 0 then (if 19 ≤ (f.length : Int) then some (f.take (19 : Int).toNat, t.2) else none) else some (f, t.2)) (fun k => ?_) (Ev.bind hv ?_)
      · rw [spec_l92Form.l0, if_neg (by omega)]
      · exact Ev.no hz (Ev.now _)
  | d + 1, i, f, s, h, hf, h0, h1, hr => by
    obtain ⟨v, hv, hv0, hv1⟩ := pick_ev b hb s p h0 (by omega)
    obtain ⟨u, hu, hu0, hu1⟩ := pick_ev b hb (s + 1) 2 (by omega) (by omega)
    have hv2 := hv1 (by omega)
    have hu2 := hu1 (by omega)
    have hvu : 0 ≤ v * u ∧ v * u < p := by
      have : u = 0 ∨ u = 1 := by omega
      rcases this with rfl | rfl <;> simp <;> omega
    obtain ⟨f', s', he, hl, g1, g2, g3⟩ := l92Form_l b hb p hp d (i + 1) (f ++ [wrap64 (v * u)]) (s + 1 + 1) (by omega) (by simp [hf]) (by omega) (by omega) (by
      rw [wsm (by omega) (by omega)]
      intro x hx
      rcases List.mem_append.1 hx with hx | hx
      · exact hr x hx
      · rw [List.mem_singleton.1 hx]; exact hvu)
    refine ⟨f', s', ?_, hl, by omega, by omega, g3⟩
    refine Ev.step (f := fun k => (spec_l6Rd_pick.f k b s p).bind fun t => (spec_l6Rd_pick.f k b t.2 2).bind fun t2 => spec_l92Form.l0 k p (f ++ [wrap64 (t.1 * t2.1)]) ((i + 1 : Nat) : Int) b t2.2) (fun k => ?_) (Ev.bind hv (Ev.bind hu he))
    rw [spec_l92Form.l0, if_pos (by omega)]
    congr 1; funext t
    congr 1; funext t2
    rw [if_pos (by omega), wsm (i := (i : Int) + 1) (by omega) (by omega)]
    rfl
theorem l92Form_ev (b : List Int) (hb : bytesOk b) (p s : Int) (hp : 1 ≤ p ∧ p ≤ 31) (h0 : 0 ≤ s) (h1 : s ≤ 900000) : ∃ f s', Ev (fun k => spec_l92Form.f k b s p) (f, s') ∧ f.length ≤ 20 ∧ s ≤ s' ∧ s' ≤ s + 50 := by
  unfold spec_l92Form.f
  cases hq : primeB p
  · obtain ⟨f, s', he, hl, g1, g2, _⟩ := l92Form_l b hb p hp 20 0 [] s (by omega) rfl h0 (by omega) (by simp)
    refine ⟨f, s', Ev.bind (sCubeForm_ev p) ?_, hl, g1, by omega⟩
    rw [hq]
    refine Ev.no (by simp) (Ev.step (f := fun k => spec_l92Form.l0 k p [] ((0 : Nat) : Int) b s) (fun k => ?_) he)
    rw [spec_l92Form.j0, if_neg (by simp)]; rfl
  · obtain ⟨v, hv, hv0, hv1⟩ := pick_ev b hb s 3 h0 (by omega)
    by_cases hz : v = 0
    · refine ⟨cubeL, s + 1, Ev.bind (sCubeForm_ev p) ?_, by decide, by omega, by omega⟩
      rw [hq]
      refine Ev.yes rfl (Ev.bind hv (Ev.step (f := fun _ => some (cubeL, s + 1)) (fun k => ?_) (Ev.now _)))
      rw [spec_l92Form.j0, if_pos (by simp [hz])]; rfl
    · obtain ⟨f, s', he, hl, g1, g2, _⟩ := l92Form_l b hb p hp 20 0 [] (s + 1) (by omega) rfl (by omega) (by omega) (by simp)
      refine ⟨f, s', Ev.bind (sCubeForm_ev p) ?_, hl, by omega, by omega⟩
      rw [hq]
      refine Ev.yes rfl (Ev.bind hv (Ev.step (f := fun k => spec_l92Form.l0 k p [] ((0 : Nat) : Int) b (s + 1)) (fun k => ?_) he))
      rw [spec_l92Form.j0, if_neg (by simp [hz])]; rfl

end Go.Proofs.Ytpmleelfifjcaaa.PA
