/- Plain laws of what the printed functions compute. No conditions beside those that each states. -/
import Derived.Test.YtdgopdbmbaiddaaLBase
import Derived.Test.YtdgopdbmbaiddaaLPrim
import Derived.Test.YtdgopdbmbaiddaaLPrim1
import Derived.Test.YtdgopdbmbaiddaaPAx1
import Derived.Test.YtdgopdbmbaiddaaPAx2
import Derived.Test.YtdgopdbmbaiddaaWMore
namespace Go.Proofs.Ytdgopdbmbaiddaa.PA
open Go.RowKit Go.Proofs.YtdgopdbmbaiddaaW.PrintWords Go.Proofs.YtdgopdbmbaiddaaW.PrintLast Go.Proofs.YtdgopdbmbaiddaaW.PrintMore
set_option linter.unusedVariables false
set_option linter.unusedSimpArgs false

theorem all_low {p : Int} (h : primeB p = true) (x : Int) : (decide (0 ≤ x) && decide (x ≤ wrap64 (p - 1))) = (decide (0 ≤ x) && decide (x < p)) := by
  have := prime_bd h
  rw [wsm (by omega) (by omega)]
  congr 1
  rw [Bool.eq_iff_iff, decide_eq_true_iff, decide_eq_true_iff]
  omega
theorem FormIn_l (p : Int) (l : List Int) (hl : l.length ≤ 1000000000) : ∀ (d : Nat) (i : Nat), i + d = l.length → Ev (fun k => spec_FormIn.l0 k p l (i : Int)) (((l.drop i).all fun x => decide (0 ≤ x) && decide (x ≤ wrap64 (p - 1))) && primeB p && decide (l.length = 20))
  | 0, i, h => by
    refine Ev.step (f := fun _ => some (primeB p && decide (l.length = 20))) (fun k => ?_) ?_
    · rw [spec_FormIn.l0, if_neg (by omega), PrimeIn_eq]
      cases primeB p
      · rfl
      · simp only [Option.bind_some, if_true, Bool.true_and]
        congr 1
        rw [Bool.eq_iff_iff, beq_iff_eq, decide_eq_true_iff]; omega
    · rw [List.drop_eq_nil_of_le (by omega)]; exact Ev.now _
  | d + 1, i, h => by
    have ih := FormIn_l p l hl d (i + 1) (by omega)
    rw [rd_drop l i (by omega), List.all_cons]
    cases hb : (decide (0 ≤ rd l (i : Int)) && decide (rd l (i : Int) ≤ wrap64 (p - 1)))
    · refine Ev.step (f := fun _ => some false) (fun k => ?_) ?_
      · rw [spec_FormIn.l0, if_pos (by omega), if_pos (by omega), l6In_eq, hb]; rfl
      · exact Ev.now _
    · refine Ev.step (f := fun k => spec_FormIn.l0 k p l ((i + 1 : Nat) : Int)) (fun k => ?_) ?_
      · rw [spec_FormIn.l0, if_pos (by omega), if_pos (by omega), l6In_eq, hb, wsm (by omega) (by omega)]
        simp
      · simpa using ih
theorem FormIn_ev (p : Int) (l : List Int) (hl : l.length ≤ 1000000000) : Ev (fun k => spec_FormIn.f k p l) (numsB p l 20) := by
  have h := FormIn_l p l hl l.length 0 (by omega)
  unfold spec_FormIn.f
  have e : ((l.all fun x => decide (0 ≤ x) && decide (x ≤ wrap64 (p - 1))) && primeB p && decide (l.length = 20)) = numsB p l 20 := by
    unfold numsB
    cases hp : primeB p
    · simp
    · have : (fun x => decide (0 ≤ x) && decide (x ≤ wrap64 (p - 1))) = (fun x => decide (0 ≤ x) && decide (x < p)) := funext fun x => all_low hp x
      rw [this]
      cases (l.all fun x => decide (0 ≤ x) && decide (x < p)) <;> cases decide (l.length = 20) <;> rfl
  rw [← e]
  simpa using h

end Go.Proofs.Ytdgopdbmbaiddaa.PA
