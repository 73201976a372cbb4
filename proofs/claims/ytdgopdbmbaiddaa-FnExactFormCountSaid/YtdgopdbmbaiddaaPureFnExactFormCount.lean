/- For every whole number p and every list f the program's FormCount returns what the reference's returns and leaves f as it was. No conditions. -/
import Derived.Test.YtdgopdbmbaiddaaLBase
import Derived.Test.YtdgopdbmbaiddaaLCount
import Derived.Test.YtdgopdbmbaiddaaLList
import Derived.Test.YtdgopdbmbaiddaaLPrim
import Derived.Test.YtdgopdbmbaiddaaPAx2
import Derived.Test.YtdgopdbmbaiddaaPAx3
import Derived.Test.YtdgopdbmbaiddaaWMore
namespace Go.Proofs.Ytdgopdbmbaiddaa.PA
open Go.RowKit Go.Proofs.YtdgopdbmbaiddaaW.PrintWords Go.Proofs.YtdgopdbmbaiddaaW.PrintLast Go.Proofs.YtdgopdbmbaiddaaW.PrintMore
set_option linter.unusedVariables false
set_option linter.unusedSimpArgs false

theorem toIntS_id (l : List Int) (hl : l.length ≤ 1048576) : ∃ k, laws_toIntS.f k l = some l := (toIntS_ev l hl).rounds
theorem FnExactFormCount_ev (p : Int) (f : List Int) : Ev (fun k => laws_FnExactFormCount.f k p f) true := by
  unfold laws_FnExactFormCount.f
  refine Ev.ite (fun _ => Ev.now _) (fun hl => ?_)
  have hl' : f.length ≤ 1048576 := by omega
  refine Ev.bind (toIntS_ev f hl') (Ev.bind (sFormCount_ev p f (by omega)) (Ev.bind (toIntS_ev f hl') (Ev.bind (Ev.k (iFormCount_eq p f)) ?_)))
  refine Ev.yes rfl ?_
  rw [show ((countP p f).2 != (countP p f).2) = false from by simp]
  refine Ev.step (f := fun k => (laws_toIntS.f k f).bind fun t148 => (laws_eqIntS.f k f t148).bind fun t151 => if t151 = true then some true else some false) (fun k => ?_) ?_
  · rw [laws_FnExactFormCount.j0, if_neg (by simp)]
  · refine Ev.bind (toIntS_ev f hl') (Ev.bind (eqIntS_ev f f (by omega)) ?_)
    rw [decide_eq_true rfl]
    exact Ev.now _

end Go.Proofs.Ytdgopdbmbaiddaa.PA

namespace Go.Proofs.Ytdgopdbmbaiddaa.Pure
open Go.RowKit Go.Proofs.Ytdgopdbmbaiddaa.PA Go.Proofs.YtdgopdbmbaiddaaW.PrintWords Go.Proofs.YtdgopdbmbaiddaaW.PrintLast
theorem FnExactFormCount : laws_FnExactFormCount.Pure := by
  intro p f
  intros
  first | exact (FnExactFormCount_ev p f).rounds | exact (FnExactFormCount_ev p f (by assumption)).rounds
end Go.Proofs.Ytdgopdbmbaiddaa.Pure
