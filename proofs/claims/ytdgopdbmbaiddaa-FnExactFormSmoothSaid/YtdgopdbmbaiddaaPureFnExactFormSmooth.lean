/- For every whole number p and every list f the program's FormSmooth returns what the reference's returns and leaves f as it was. No conditions. -/
import Derived.Test.YtdgopdbmbaiddaaLBase
import Derived.Test.YtdgopdbmbaiddaaLCount
import Derived.Test.YtdgopdbmbaiddaaLList
import Derived.Test.YtdgopdbmbaiddaaLPrim
import Derived.Test.YtdgopdbmbaiddaaLSmooth
import Derived.Test.YtdgopdbmbaiddaaPAx14
import Derived.Test.YtdgopdbmbaiddaaPAx2
import Derived.Test.YtdgopdbmbaiddaaWMore
namespace Go.Proofs.Ytdgopdbmbaiddaa.PA
open Go.RowKit Go.Proofs.YtdgopdbmbaiddaaW.PrintWords Go.Proofs.YtdgopdbmbaiddaaW.PrintLast Go.Proofs.YtdgopdbmbaiddaaW.PrintMore
set_option linter.unusedVariables false
set_option linter.unusedSimpArgs false

theorem toIntS_id (l : List Int) (hl : l.length ≤ 1048576) : ∃ k, laws_toIntS.f k l = some l := (toIntS_ev l hl).rounds
theorem FnExactFormSmooth_ev (p : Int) (f : List Int) : Ev (fun k => laws_FnExactFormSmooth.f k p f) true := by
  unfold laws_FnExactFormSmooth.f
  refine Ev.ite (fun _ => Ev.now _) (fun hl => ?_)
  have hl' : f.length ≤ 1048576 := by omega
  refine Ev.bind (toIntS_ev f hl') (Ev.bind (sFormSmooth_ev p f (by omega)) (Ev.bind (toIntS_ev f hl') (Ev.bind (Ev.k (iFormSmooth_eq p f)) ?_)))
  refine Ev.no (by simp) (Ev.bind (toIntS_ev f hl') (Ev.bind (eqIntS_ev f f (by omega)) ?_))
  rw [decide_eq_true rfl]
  exact Ev.now _

end Go.Proofs.Ytdgopdbmbaiddaa.PA

namespace Go.Proofs.Ytdgopdbmbaiddaa.Pure
open Go.RowKit Go.Proofs.Ytdgopdbmbaiddaa.PA Go.Proofs.YtdgopdbmbaiddaaW.PrintWords Go.Proofs.YtdgopdbmbaiddaaW.PrintLast
theorem FnExactFormSmooth : laws_FnExactFormSmooth.Pure := by
  intro p f
  intros
  first | exact (FnExactFormSmooth_ev p f).rounds | exact (FnExactFormSmooth_ev p f (by assumption)).rounds
end Go.Proofs.Ytdgopdbmbaiddaa.Pure
