/- Plain laws of what the printed functions compute. No conditions beside those that each states. -/
import Derived.Test.YtdgopdbmbaiddaaLBase
import Derived.Test.YtdgopdbmbaiddaaLPrim
import Derived.Test.YtdgopdbmbaiddaaLRed
import Derived.Test.YtdgopdbmbaiddaaLRed2
import Derived.Test.YtdgopdbmbaiddaaLSpace
import Derived.Test.YtdgopdbmbaiddaaLSpace2
import Derived.Test.YtdgopdbmbaiddaaPAx4
import Derived.Test.YtdgopdbmbaiddaaWMore
namespace Go.Proofs.Ytdgopdbmbaiddaa.PA
open Go.RowKit Go.Proofs.YtdgopdbmbaiddaaW.PrintWords Go.Proofs.YtdgopdbmbaiddaaW.PrintLast Go.Proofs.YtdgopdbmbaiddaaW.PrintMore
set_option linter.unusedVariables false
set_option linter.unusedSimpArgs false

theorem low_eq {p : Int} (hp : primeB p = true) (x : Int) : lowB p x = (decide (0 ≤ x) && decide (x < p)) := by
  have hb := prime_bd hp
  rw [lowB, wsm (by omega) (by omega), show decide (x ≤ p - 1) = decide (x < p) from decide_eq_decide.2 (by omega)]
theorem two_of {M : List (List Int)} (h : M.length = 2) : M = [M.getD 0 [], M.getD 1 []] := by
  match M, h with
  | [x, y], _ => rfl
theorem sSpaceIn_ev (p : Int) (l : List Int) : Ev (fun k => spec_SpaceIn.f k p l) (lineB p l) := by
  unfold spec_SpaceIn.f
  refine Ev.bind (Ev.k (PrimeIn_eq p)) ?_
  cases hp : primeB p with
  | false =>
    refine Ev.no (by simp) ?_
    rw [show lineB p l = false from by simp [lineB, numsB, hp]]
    exact Ev.now _
  | true =>
    have hb := prime_bd hp
    refine Ev.yes rfl ?_
    by_cases hl : l.length = 8
    · refine Ev.yes hl ?_
      by_cases ha : l.all (lowB p) = true
      · refine Ev.yes ha ?_
        have hn : numsB p l 8 = true := numsB_mk hp hl (fun x hx => by
          have h1 := List.all_eq_true.1 ha x hx
          rw [low_eq hp] at h1
          simpa using h1)
        have hok := halves_ok hn
        refine Ev.bind (l4Reduce_ev hp (w := 4) (by omega) _ hok (by simp)) ?_
        by_cases h2 : (redP p 4 0 [l.take 4, l.drop 4] []).length = 2
        · refine Ev.yes h2 ?_
          have hro := redP_ok (p := p) (by omega) 4 0 _ [] hok (okR_nil p 4)
          have e := two_of h2
          have hx := hro ((redP p 4 0 [l.take 4, l.drop 4] []).getD 0 []) (mem_getD (by omega))
          have hy := hro ((redP p 4 0 [l.take 4, l.drop 4] []).getD 1 []) (mem_getD (by omega))
          refine Ev.yes ⟨Nat.lt_of_le_of_lt (Nat.le_of_eq hx.1) (by omega), Nat.lt_of_le_of_lt (Nat.le_of_eq hy.1) (by omega)⟩ ?_
          have e2 : spanP p 4 [l.take 4, l.drop 4] = (redP p 4 0 [l.take 4, l.drop 4] []).getD 0 [] ++ (redP p 4 0 [l.take 4, l.drop 4] []).getD 1 [] := by
            rw [spanP]
            conv => lhs; rw [e]
            simp
          rw [lineB, hn, Bool.true_and, e2]
          exact l7Same_ev _ _ (by rw [List.length_append, hx.1, hy.1, hl]) (by rw [List.length_append, hx.1, hy.1]; omega)
        · refine Ev.no h2 ?_
          rw [show lineB p l = false from by
            cases hh : lineB p l with
            | false => rfl
            | true => exact absurd (line_rank hh) h2]
          exact Ev.now _
      · refine Ev.no ha ?_
        rw [show lineB p l = false from by
          cases hh : lineB p l with
          | false => rfl
          | true =>
            refine absurd (List.all_eq_true.2 fun x hx => ?_) ha
            rw [low_eq hp]
            simpa using (numsB_prime (line_nums hh)).2.2 x hx]
        exact Ev.now _
    · refine Ev.no hl ?_
      rw [show lineB p l = false from by
        cases hh : lineB p l with
        | false => rfl
        | true => exact absurd (numsB_prime (line_nums hh)).2.1 hl]
      exact Ev.now _

end Go.Proofs.Ytdgopdbmbaiddaa.PA
