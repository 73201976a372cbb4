/- Plain laws of what the printed functions compute. No conditions beside those that each states. -/
import Derived.Test.YtdgopdbmbaiddaaLBase
import Derived.Test.YtdgopdbmbaiddaaPAx1
import Derived.Test.YtdgopdbmbaiddaaWMore
namespace Go.Proofs.Ytdgopdbmbaiddaa.PA
open Go.RowKit Go.Proofs.YtdgopdbmbaiddaaW.PrintWords Go.Proofs.YtdgopdbmbaiddaaW.PrintLast Go.Proofs.YtdgopdbmbaiddaaW.PrintMore
set_option linter.unusedVariables false
set_option linter.unusedSimpArgs false

theorem eqIntS_l (a b : List Int) (hab : a.length = b.length) (hl : a.length ≤ 1000000000) : ∀ (d : Nat) (i : Nat), i + d = a.length → Ev (fun k => laws_eqIntS.l0 k a b (i : Int)) (decide (a.drop i = b.drop i))
  | 0, i, h => by
    refine Ev.step (f := fun _ => some true) (fun k => ?_) ?_
    · rw [laws_eqIntS.l0, if_neg (by omega)]
    · rw [List.drop_eq_nil_of_le (by omega), List.drop_eq_nil_of_le (by omega)]; exact Ev.now _
  | d + 1, i, h => by
    have ih := eqIntS_l a b hab hl d (i + 1) (by omega)
    rw [rd_drop a i (by omega), rd_drop b i (by omega)]
    by_cases hr : rd a (i : Int) = rd b (i : Int)
    · refine Ev.step (f := fun k => laws_eqIntS.l0 k a b ((i + 1 : Nat) : Int)) (fun k => ?_) ?_
      · rw [laws_eqIntS.l0, if_pos (by omega), if_pos (by omega), if_pos (by omega), if_pos hr, wsm (by omega) (by omega)]
        simp
      · simpa [hr] using ih
    · refine Ev.step (f := fun _ => some false) (fun k => ?_) ?_
      · rw [laws_eqIntS.l0, if_pos (by omega), if_pos (by omega), if_pos (by omega), if_neg hr]
      · simpa [hr] using Ev.now false
theorem eqIntS_ev (a b : List Int) (hl : a.length ≤ 1000000000) : Ev (fun k => laws_eqIntS.f k a b) (decide (a = b)) := by
  unfold laws_eqIntS.f
  refine Ev.ite (fun h => ?_) (fun h => ?_)
  · simpa using eqIntS_l a b (by omega) hl a.length 0 (by omega)
  · rw [decide_eq_false (fun e => h (by rw [e]))]; exact Ev.now _

end Go.Proofs.Ytdgopdbmbaiddaa.PA
