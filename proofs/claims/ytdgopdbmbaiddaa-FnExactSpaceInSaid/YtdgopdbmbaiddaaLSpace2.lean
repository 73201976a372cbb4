/- Plain laws of what the printed functions compute. No conditions beside those that each states. -/
import Derived.Test.YtdgopdbmbaiddaaLBase
import Derived.Test.YtdgopdbmbaiddaaPAx4
import Derived.Test.YtdgopdbmbaiddaaWMore
namespace Go.Proofs.Ytdgopdbmbaiddaa.PA
open Go.RowKit Go.Proofs.YtdgopdbmbaiddaaW.PrintWords Go.Proofs.YtdgopdbmbaiddaaW.PrintLast Go.Proofs.YtdgopdbmbaiddaaW.PrintMore
set_option linter.unusedVariables false
set_option linter.unusedSimpArgs false

theorem l7Same_l (a b : List Int) (hab : a.length ≤ b.length) (hl : a.length ≤ 1000000000) : ∀ (d i : Nat), i + d = a.length → Ev (fun k => spec_l7Same.l0 k a b (i : Int)) (decide (a.drop i = (b.take a.length).drop i))
  | 0, i, h => by
    refine Ev.step (f := fun _ => some true) (fun k => ?_) ?_
    · rw [spec_l7Same.l0, if_neg (by omega)]
    · rw [List.drop_eq_nil_of_le (by omega), List.drop_eq_nil_of_le (by simp; omega)]; exact Ev.now _
  | d + 1, i, h => by
    have ih := l7Same_l a b hab hl d (i + 1) (by omega)
    have e : rd (b.take a.length) (i : Int) = rd b (i : Int) := by
      rw [rd_at _ i (by simp; omega), rd_at b i (by omega)]; simp
    rw [rd_drop a i (by omega), rd_drop (b.take a.length) i (by simp; omega), e]
    by_cases hz : rd a (i : Int) = rd b (i : Int)
    · refine Ev.step (f := fun k => spec_l7Same.l0 k a b ((i + 1 : Nat) : Int)) (fun k => ?_) ?_
      · rw [spec_l7Same.l0, if_pos (by omega), if_pos (by omega), if_pos (by omega), if_pos hz, wsm (by omega) (by omega)]; rfl
      · simpa [hz] using ih
    · refine Ev.step (f := fun _ => some false) (fun k => ?_) ?_
      · rw [spec_l7Same.l0, if_pos (by omega), if_pos (by omega), if_pos (by omega), if_neg hz]
      · rw [decide_eq_false (by simp [hz])]
        exact Ev.now false
theorem l7Same_ev (a b : List Int) (hab : a.length = b.length) (hl : a.length ≤ 1000000000) : Ev (fun k => spec_l7Same.f k a b) (decide (a = b)) := by
  unfold spec_l7Same.f
  have h := l7Same_l a b (by omega) hl a.length 0 (by omega)
  rw [hab, List.take_length] at h
  simpa using h

end Go.Proofs.Ytdgopdbmbaiddaa.PA
