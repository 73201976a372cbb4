/- For every whole number p and every list l the program's SpaceIn returns what the reference's returns and leaves l as it was. No conditions. -/
import Derived.Test.YtdgopdbmbaiddaaLBase
import Derived.Test.YtdgopdbmbaiddaaLList
import Derived.Test.YtdgopdbmbaiddaaLList1
import Derived.Test.YtdgopdbmbaiddaaLSpace5
import Derived.Test.YtdgopdbmbaiddaaLSpace6
import Derived.Test.YtdgopdbmbaiddaaPAx7
import Derived.Test.YtdgopdbmbaiddaaWMore
namespace Go.Proofs.Ytdgopdbmbaiddaa.PA
open Go.RowKit Go.Proofs.YtdgopdbmbaiddaaW.PrintWords Go.Proofs.YtdgopdbmbaiddaaW.PrintLast Go.Proofs.YtdgopdbmbaiddaaW.PrintMore
set_option linter.unusedVariables false
set_option linter.unusedSimpArgs false

theorem FnExactSpaceIn_ev (p : Int) (l : List Int) : Ev (fun k => laws_FnExactSpaceIn.f k p l) true := by
  unfold laws_FnExactSpaceIn.f
  refine Ev.ite (fun _ => Ev.now _) (fun hl => ?_)
  have hl' : l.length ≤ 1048576 := by omega
  refine Ev.bind (toIntS_ev l hl') (Ev.bind (sSpaceIn_ev p l) (Ev.bind (toIntS_ev l hl') (Ev.bind (iSpace_ev p l) ?_)))
  refine Ev.no (by simp) (Ev.bind (toIntS_ev l hl') (Ev.bind (eqIntS_ev l l (by omega)) ?_))
  rw [decide_eq_true rfl]
  exact Ev.now _

end Go.Proofs.Ytdgopdbmbaiddaa.PA

namespace Go.Proofs.Ytdgopdbmbaiddaa.Pure
open Go.RowKit Go.Proofs.Ytdgopdbmbaiddaa.PA Go.Proofs.YtdgopdbmbaiddaaW.PrintWords Go.Proofs.YtdgopdbmbaiddaaW.PrintLast
theorem FnExactSpaceIn : laws_FnExactSpaceIn.Pure := by
  intro p l
  intros
  first | exact (FnExactSpaceIn_ev p l).rounds | exact (FnExactSpaceIn_ev p l (by assumption)).rounds
end Go.Proofs.Ytdgopdbmbaiddaa.Pure
