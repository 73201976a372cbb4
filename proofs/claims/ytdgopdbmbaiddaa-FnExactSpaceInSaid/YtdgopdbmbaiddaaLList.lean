/- Plain laws of what the printed functions compute. No conditions beside those that each states. -/
import Derived.Test.YtdgopdbmbaiddaaLBase
import Derived.Test.YtdgopdbmbaiddaaPAx1
import Derived.Test.YtdgopdbmbaiddaaWMore
namespace Go.Proofs.Ytdgopdbmbaiddaa.PA
open Go.RowKit Go.Proofs.YtdgopdbmbaiddaaW.PrintWords Go.Proofs.YtdgopdbmbaiddaaW.PrintLast Go.Proofs.YtdgopdbmbaiddaaW.PrintMore
set_option linter.unusedVariables false
set_option linter.unusedSimpArgs false

theorem toIntS_l (l : List Int) (hl : l.length ≤ 1048576) : ∀ (d : Nat) (i : Nat) (acc : List Int), i + d = l.length → acc.length = l.length → Ev (fun k => laws_toIntS.l0 k l acc (i : Int)) (acc.take i ++ l.drop i)
  | 0, i, acc, h, ha => by
    refine Ev.step (f := fun _ => some acc) (fun k => ?_) ?_
    · rw [laws_toIntS.l0, if_neg (by omega)]
    · rw [List.drop_eq_nil_of_le (by omega), List.take_of_length_le (by omega), List.append_nil]; exact Ev.now _
  | d + 1, i, acc, h, ha => by
    refine Ev.step (f := fun k => laws_toIntS.l0 k l (acc.set i (rd l (i : Int))) ((i + 1 : Nat) : Int)) (fun k => ?_) ?_
    · rw [laws_toIntS.l0, if_pos (by omega), if_pos (by omega), if_pos (by omega), wsm (by omega) (by omega)]
      simp
    · have := toIntS_l l hl d (i + 1) (acc.set i (rd l (i : Int))) (by omega) (by simp [ha])
      rw [List.take_add_one, List.take_set_of_le (Nat.le_refl i)] at this
      rw [rd_drop l i (by omega)]
      simpa [List.getElem?_set_self, ha, show i < l.length by omega] using this
theorem toIntS_ev (l : List Int) (hl : l.length ≤ 1048576) : Ev (fun k => laws_toIntS.f k l) l := by
  unfold laws_toIntS.f
  refine Ev.yes (by omega) (Ev.yes (by simp; omega) ?_)
  have := toIntS_l l hl l.length 0 (List.replicate l.length 0) (by omega) (by simp)
  simpa using this

end Go.Proofs.Ytdgopdbmbaiddaa.PA
