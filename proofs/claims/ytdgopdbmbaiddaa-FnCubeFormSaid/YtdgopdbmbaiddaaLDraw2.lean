/- Plain laws of what the printed functions compute. No conditions beside those that each states. -/
import Derived.Test.YtdgopdbmbaiddaaLBase
import Derived.Test.YtdgopdbmbaiddaaLDraw
import Derived.Test.YtdgopdbmbaiddaaLDraw1
import Derived.Test.YtdgopdbmbaiddaaPAx4
import Derived.Test.YtdgopdbmbaiddaaWMore
namespace Go.Proofs.Ytdgopdbmbaiddaa.PA
open Go.RowKit Go.Proofs.YtdgopdbmbaiddaaW.PrintWords Go.Proofs.YtdgopdbmbaiddaaW.PrintLast Go.Proofs.YtdgopdbmbaiddaaW.PrintMore
set_option linter.unusedVariables false
set_option linter.unusedSimpArgs false

theorem l92Prime_ev (b : List Int) (h : bytesOk b) (p : Int) (hp : 0 ≤ p) (hp2 : p ≤ 1000000) : ∃ v, Ev (fun k => spec_l92Prime.f k b p) (v, p + 1) ∧ (v = 7 ∨ v = 11 ∨ v = 13 ∨ v = 17 ∨ v = 19 ∨ v = 23 ∨ v = 29 ∨ v = 31 ∨ v = 9 ∨ v = 5) := by
  obtain ⟨v, hv, h0, h1⟩ := pick_ev b h p 13 hp hp2
  have h2 := h1 (by omega)
  refine ⟨rd ([7, 11, 13, 17, 19, 23, 29, 31, 13, 19, 31, 9, 5] : List Int) v, ?_, ?_⟩
  · unfold spec_l92Prime.f
    refine Ev.bind (Ev.now _) (Ev.bind hv ?_)
    exact Ev.yes h0 (Ev.yes (by simpa using h2) (Ev.now _))
  · have : v = 0 ∨ v = 1 ∨ v = 2 ∨ v = 3 ∨ v = 4 ∨ v = 5 ∨ v = 6 ∨ v = 7 ∨ v = 8 ∨ v = 9 ∨ v = 10 ∨ v = 11 ∨ v = 12 := by omega
    rcases this with rfl | rfl | rfl | rfl | rfl | rfl | rfl | rfl | rfl | rfl | rfl | rfl | rfl <;> simp [rd]

end Go.Proofs.Ytdgopdbmbaiddaa.PA
