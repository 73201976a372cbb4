/- Plain laws of what the printed functions compute. No conditions beside those that each states. -/
import Derived.Test.YtdgopdbmbaiddaaLBase
import Derived.Test.YtdgopdbmbaiddaaLPrim
import Derived.Test.YtdgopdbmbaiddaaLSpace
import Derived.Test.YtdgopdbmbaiddaaLSpace1
import Derived.Test.YtdgopdbmbaiddaaLSpace3
import Derived.Test.YtdgopdbmbaiddaaPAx7
import Derived.Test.YtdgopdbmbaiddaaWMore
namespace Go.Proofs.Ytdgopdbmbaiddaa.PA
open Go.RowKit Go.Proofs.YtdgopdbmbaiddaaW.PrintWords Go.Proofs.YtdgopdbmbaiddaaW.PrintLast Go.Proofs.YtdgopdbmbaiddaaW.PrintMore
set_option linter.unusedVariables false
set_option linter.unusedSimpArgs false

theorem isSpaceLine_ev (p : Int) (l : List Int) : Ev (fun k => impl_isSpaceLine.f k p l) (lineB p l) := by
  unfold impl_isSpaceLine.f lineB
  refine Ev.bind (Ev.k (areNumbers_eq p l 8)) ?_
  cases hn : numsB p l 8 with
  | false => exact Ev.no (by simp) (Ev.now _)
  | true =>
    obtain ⟨hp, hl, _⟩ := numsB_prime hn
    have hb := prime_bd hp
    refine Ev.yes rfl ?_
    refine Ev.bind (Ev.k (rowsOf_eq l (by omega))) ?_
    refine Ev.bind (spanOf_ev hp (by omega) _ (halves_ok hn) (by simp)) (Ev.bind (Equal_ev _ _ ?_) ?_)
    · rw [spanP_len (by omega) (halves_ok hn)]
      have h2 := redP_len p 4 0 [l.take 4, l.drop 4] []
      have h3 : rankP p 4 [l.take 4, l.drop 4] ≤ 2 := by simpa [rankP] using h2
      omega
    · rw [Bool.true_and]; exact Ev.now _

end Go.Proofs.Ytdgopdbmbaiddaa.PA
