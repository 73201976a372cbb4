/- Plain laws of what the printed functions compute. No conditions beside those that each states. -/
import Derived.Test.YtdgopdbmbaiddaaLBase
import Derived.Test.YtdgopdbmbaiddaaLPrim
import Derived.Test.YtdgopdbmbaiddaaLRow
import Derived.Test.YtdgopdbmbaiddaaLVal
import Derived.Test.YtdgopdbmbaiddaaPAx2
import Derived.Test.YtdgopdbmbaiddaaPAx7
import Derived.Test.YtdgopdbmbaiddaaWMore
namespace Go.Proofs.Ytdgopdbmbaiddaa.PA
open Go.RowKit Go.Proofs.YtdgopdbmbaiddaaW.PrintWords Go.Proofs.YtdgopdbmbaiddaaW.PrintLast Go.Proofs.YtdgopdbmbaiddaaW.PrintMore
set_option linter.unusedVariables false
set_option linter.unusedSimpArgs false

/-- what both FormValues return -/
def valueP (p : Int) (f a : List Int) : Int × Bool := if numsB p f 20 = true then (if placeB p a = true then (xval f a % p, true) else (0, false)) else (0, false)
theorem placeB_nums {p : Int} {a : List Int} (h : placeB p a = true) : numsB p a 4 = true := by
  unfold placeB at h
  rw [Bool.and_eq_true] at h
  exact h.1
theorem iFormValue_ev (p : Int) (f a : List Int) : Ev (fun k => impl_FormValue.f k p f a) (valueP p f a) := by
  unfold impl_FormValue.f valueP
  refine Ev.bind (Ev.k (show impl_areNumbers.f p f 20 = some (numsB p f 20) from areNumbers_eq p f 20)) ?_
  cases hf : numsB p f 20
  · exact Ev.no (by simp) (Ev.now _)
  · refine Ev.yes rfl (Ev.bind (Ev.k (isPlace_eq p a)) ?_)
    cases ha : placeB p a
    · exact Ev.no (by simp) (Ev.now _)
    · have hn := placeB_nums ha
      obtain ⟨hp, hl, _⟩ := numsB_prime hf
      exact Ev.yes rfl (Ev.bind (iValue_ev p f a (prime_bd hp) hl (numsB_prime hn).2.1 (small_of hf) (small_of hn)) (Ev.now _))

end Go.Proofs.Ytdgopdbmbaiddaa.PA
