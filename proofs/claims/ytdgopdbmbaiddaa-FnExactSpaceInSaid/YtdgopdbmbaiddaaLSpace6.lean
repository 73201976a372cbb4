/- Plain laws of what the printed functions compute. No conditions beside those that each states. -/
import Derived.Test.YtdgopdbmbaiddaaLSpace
import Derived.Test.YtdgopdbmbaiddaaLSpace4
import Derived.Test.YtdgopdbmbaiddaaPAx7
import Derived.Test.YtdgopdbmbaiddaaWMore
namespace Go.Proofs.Ytdgopdbmbaiddaa.PA
open Go.RowKit Go.Proofs.YtdgopdbmbaiddaaW.PrintWords Go.Proofs.YtdgopdbmbaiddaaW.PrintLast Go.Proofs.YtdgopdbmbaiddaaW.PrintMore
set_option linter.unusedVariables false
set_option linter.unusedSimpArgs false

theorem iSpace_ev (p : Int) (l : List Int) : Ev (fun k => impl_SpaceIn.f k p l) (lineB p l) := by
  unfold impl_SpaceIn.f
  exact Ev.bind (isSpaceLine_ev p l) (Ev.now _)

end Go.Proofs.Ytdgopdbmbaiddaa.PA
