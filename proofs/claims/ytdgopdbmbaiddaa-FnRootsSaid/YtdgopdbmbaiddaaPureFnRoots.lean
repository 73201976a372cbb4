/- For every code: three roots of the drawn prime are cubes of p - 1, ascend, have a sum that is a multiple of p, and the form of cubes has p * p + 7 * p + 1 places. No conditions. -/
import Derived.Test.YtdgopdbmbaiddaaLBase
import Derived.Test.YtdgopdbmbaiddaaLCount
import Derived.Test.YtdgopdbmbaiddaaLCubes
import Derived.Test.YtdgopdbmbaiddaaLDraw
import Derived.Test.YtdgopdbmbaiddaaLList
import Derived.Test.YtdgopdbmbaiddaaLPrim
import Derived.Test.YtdgopdbmbaiddaaPAx2
import Derived.Test.YtdgopdbmbaiddaaPAx3
import Derived.Test.YtdgopdbmbaiddaaPAx4
import Derived.Test.YtdgopdbmbaiddaaPAx5
import Derived.Test.YtdgopdbmbaiddaaPAx6
import Derived.Test.YtdgopdbmbaiddaaWMore
namespace Go.Proofs.Ytdgopdbmbaiddaa.PA
open Go.RowKit Go.Proofs.YtdgopdbmbaiddaaW.PrintWords Go.Proofs.YtdgopdbmbaiddaaW.PrintLast Go.Proofs.YtdgopdbmbaiddaaW.PrintMore
set_option linter.unusedVariables false
set_option linter.unusedSimpArgs false

/-- what stands behind the draw -/
def rootsRest (k : Nat) (t218 : Int) : Option Bool := (impl_CubeRoots.f k t218).bind fun bt219 => ((spec_CubeRoots.f k t218).bind fun bt223 => (if (bt219.2 != bt223.2) = true then (laws_FnRoots.j0 k t218 bt219.1 bt219.2 bt223.1 bt223.2 true) else ((laws_sameInts.f k bt219.1 bt223.1).bind fun t227 => (if t227 = true then (laws_FnRoots.j0 k t218 bt219.1 bt219.2 bt223.1 bt223.2 (!bt219.2)) else (laws_FnRoots.j0 k t218 bt219.1 bt219.2 bt223.1 bt223.2 true)))))
theorem roots_yes (p : Int) (r : List Int) (n : Int) (h1 : impl_CubeRoots.f 60 p = some (r, true)) (h2 : spec_CubeRoots.f 60 p = some (r, true)) (h3 : impl_CubeForm.f 60 p = some (cubeF, true)) (hc : countP p cubeF = (n, true)) (hr : r.length ≤ 1000)
    (hl : laws_FnRoots.l0 60 p r true n true 0 = some true) : Ev (fun k => rootsRest k p) true := by
  have e1 : Ev (fun k => impl_CubeRoots.f k p) (r, true) := Ev.of (impl_CubeRoots.mono p) h1
  have e2 : Ev (fun k => spec_CubeRoots.f k p) (r, true) := Ev.of (spec_CubeRoots.mono p) h2
  have e3 : Ev (fun k => impl_CubeForm.f k p) (cubeF, true) := Ev.of (impl_CubeForm.mono p) h3
  have e4 : Ev (fun k => laws_FnRoots.l0 k p r true n true 0) true := Ev.of (fun k => (laws_FnRoots.mono_l k).2 _ _ _ _ _ _) hl
  unfold rootsRest
  refine Ev.bind e1 (Ev.bind e2 (Ev.no (by simp) (Ev.bind (sameInts_ev r r (by omega)) (Ev.yes (by simp) ?_))))
  refine Ev.step (f := fun k => (impl_CubeForm.f k p).bind fun bt229 => ((impl_FormCount.f p bt229.1).bind fun bt233 => (laws_FnRoots.l0 k p r bt229.2 bt233.1 bt233.2 0))) (fun k => ?_) ?_
  · rw [laws_FnRoots.j0, if_neg (by simp)]
  · refine Ev.bind e3 (Ev.bind (Ev.k (iFormCount_eq p cubeF)) ?_)
    rw [hc]
    exact e4
theorem countP_cube (p n : Nat) (hp : primeB (p : Int) = true) (hn : cubeCount p = n) : countP (p : Int) cubeF = ((n : Int), true) := by
  have hb := prime_bd hp
  unfold countP
  rw [if_pos (cubeF_nums hp), Int.toNat_natCast, cnt_cube p (by omega), hn]
theorem FnRoots_ev (l : List Int) (h : ∀ x ∈ l, (Lit.int .u8 x).wf = true) : Ev (fun k => laws_FnRoots.f k l) true := by
  unfold laws_FnRoots.f
  refine Ev.ite (fun _ => Ev.now _) (fun hl => ?_)
  obtain ⟨v, hv, hc⟩ := DrawCubeRoots_ev l h
  refine Ev.bind hv ?_
  show Ev (fun k => rootsRest k v) true
  have no : ∀ v : Int, rootsRest 60 v = some true → Ev (fun k => rootsRest k v) true := fun v hv => Ev.of (g := fun k => rootsRest k v) (fun k => by
    unfold rootsRest
    refine LeO.bind (impl_CubeRoots.mono _ _) fun a => LeO.bind (spec_CubeRoots.mono _ _) fun b => LeO.ite ((laws_FnRoots.mono_l k).1 _ _ _ _ _ _) (LeO.bind (laws_sameInts.mono _ _ _) fun c => LeO.ite ((laws_FnRoots.mono_l k).1 _ _ _ _ _ _) ((laws_FnRoots.mono_l k).1 _ _ _ _ _ _))) hv
  rcases hc with rfl | rfl | rfl | rfl | rfl | rfl | rfl | rfl | rfl | rfl
  · exact roots_yes 7 [3, 5, 6] 99 (by decide +kernel) (by decide +kernel) (by decide +kernel) (countP_cube 7 99 (by decide) cubeCounts.1) (by simp) (by decide +kernel)
  · exact no 11 (by decide +kernel)
  · exact roots_yes 13 [4, 10, 12] 261 (by decide +kernel) (by decide +kernel) (by decide +kernel) (countP_cube 13 261 (by decide) cubeCounts.2.1) (by simp) (by decide +kernel)
  · exact no 17 (by decide +kernel)
  · exact roots_yes 19 [8, 12, 18] 495 (by decide +kernel) (by decide +kernel) (by decide +kernel) (countP_cube 19 495 (by decide) cubeCounts.2.2.1) (by simp) (by decide +kernel)
  · exact no 23 (by decide +kernel)
  · exact no 29 (by decide +kernel)
  · exact roots_yes 31 [6, 26, 30] 1179 (by decide +kernel) (by decide +kernel) (by decide +kernel) (countP_cube 31 1179 (by decide) cubeCounts.2.2.2) (by simp) (by decide +kernel)
  · exact no 9 (by decide +kernel)
  · exact no 5 (by decide +kernel)

end Go.Proofs.Ytdgopdbmbaiddaa.PA

namespace Go.Proofs.Ytdgopdbmbaiddaa.Pure
open Go.RowKit Go.Proofs.Ytdgopdbmbaiddaa.PA Go.Proofs.YtdgopdbmbaiddaaW.PrintWords Go.Proofs.YtdgopdbmbaiddaaW.PrintLast
theorem FnRoots : laws_FnRoots.Pure := by
  intro l
  intros
  first | exact (FnRoots_ev l).rounds | exact (FnRoots_ev l (by assumption)).rounds
end Go.Proofs.Ytdgopdbmbaiddaa.Pure
