/- Plain laws of what the printed functions compute. No conditions beside those that each states. -/
import Derived.Test.YtdgopdbmbaiddaaLPrim
import Derived.Test.YtdgopdbmbaiddaaPAx7
import Derived.Test.YtdgopdbmbaiddaaWMore
namespace Go.Proofs.Ytdgopdbmbaiddaa.PA
open Go.RowKit Go.Proofs.YtdgopdbmbaiddaaW.PrintWords Go.Proofs.YtdgopdbmbaiddaaW.PrintLast Go.Proofs.YtdgopdbmbaiddaaW.PrintMore
set_option linter.unusedVariables false
set_option linter.unusedSimpArgs false

/-- a place of space -/
def placeB (p : Int) (a : List Int) : Bool := numsB p a 4 && monicB a
theorem isPlace_eq (p : Int) (a : List Int) : impl_isPlace.f p a = some (placeB p a) := by
  unfold impl_isPlace.f placeB
  rw [show (4 : Int) = ((4 : Nat) : Int) from rfl, areNumbers_eq]
  cases numsB p a 4 <;> rfl

end Go.Proofs.Ytdgopdbmbaiddaa.PA
