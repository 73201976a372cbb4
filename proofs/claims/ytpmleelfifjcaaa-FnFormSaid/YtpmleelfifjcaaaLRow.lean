/- Plain laws of what the printed functions compute. No conditions beside those that each states. -/
import Derived.Test.YtpmleelfifjcaaaLBase
import Derived.Test.YtpmleelfifjcaaaLPrim
import Derived.Test.YtpmleelfifjcaaaPAx2
import Derived.Test.YtpmleelfifjcaaaPAx3
import Derived.Test.YtpmleelfifjcaaaWMore
namespace Go.Proofs.Ytpmleelfifjcaaa.PA
open Go.RowKit Go.Proofs.YtpmleelfifjcaaaW.PrintWords Go.Proofs.YtpmleelfifjcaaaW.PrintLast Go.Proofs.YtpmleelfifjcaaaW.PrintMore
set_option linter.unusedVariables false
set_option linter.unusedSimpArgs false

/-- a place of space -/
def placeB (p : Int) (a : List Int) : Bool := numsB p a 4 && monicB a
theorem isPlace_eq (p : Int) (a : List Int) : impl_isPlace.f p a = some (placeB p a) := by
  unfold impl_isPlace.f placeB
  rw [show (4 : Int) = ((4 : Nat) : Int) from rfl, areNumbers_eq]
  cases numsB p a 4 <;> rfl

end Go.Proofs.Ytpmleelfifjcaaa.PA
