/- Plain laws of what the printed functions compute. No conditions beside those that each states. -/
import Derived.Test.YtdgopdbmbaiddaaLBase
import Derived.Test.YtdgopdbmbaiddaaLCount
import Derived.Test.YtdgopdbmbaiddaaLCount1
import Derived.Test.YtdgopdbmbaiddaaLPrim
import Derived.Test.YtdgopdbmbaiddaaLPrim2
import Derived.Test.YtdgopdbmbaiddaaLVal
import Derived.Test.YtdgopdbmbaiddaaLVal1
import Derived.Test.YtdgopdbmbaiddaaPAx1
import Derived.Test.YtdgopdbmbaiddaaPAx2
import Derived.Test.YtdgopdbmbaiddaaPAx3
import Derived.Test.YtdgopdbmbaiddaaWMore
namespace Go.Proofs.Ytdgopdbmbaiddaa.PA
open Go.RowKit Go.Proofs.YtdgopdbmbaiddaaW.PrintWords Go.Proofs.YtdgopdbmbaiddaaW.PrintLast Go.Proofs.YtdgopdbmbaiddaaW.PrintMore
set_option linter.unusedVariables false
set_option linter.unusedSimpArgs false

theorem FormCount_l (p : Nat) (f : List Int) (h : numsB p f 20 = true) : ∀ (d : Nat) (n c : Nat), n + d = 1 + p + p ^ 2 + p ^ 3 → c ≤ n → Ev (fun k => spec_FormCount.l0 k p f (c : Int) (n : Int)) (((c + cnt p f ((List.range' n d).map (sP p)) : Nat) : Int), true) := by
  obtain ⟨hp, hl, hr⟩ := numsB_prime h
  have hb := prime_bd hp
  have hq := pow3_le (p := p) (by omega)
  have e2 : (p : Int) * (p : Int) = ((p ^ 2 : Nat) : Int) := by rw [Nat.pow_two]; simp
  have e3 : ((p ^ 2 : Nat) : Int) * (p : Int) = ((p ^ 3 : Nat) : Int) := by rw [Nat.pow_succ p 2]; simp
  have eT : wrap64 (wrap64 (wrap64 (1 + (p : Int)) + wrap64 ((p : Int) * p)) + wrap64 (wrap64 ((p : Int) * p) * p)) = ((1 + p + p ^ 2 + p ^ 3 : Nat) : Int) := by
    rw [e2, wsm (i := ((p ^ 2 : Nat) : Int)) (by omega) (by omega), e3, wsm (i := 1 + (p : Int)) (by omega) (by omega), wsm (i := ((p ^ 3 : Nat) : Int)) (by omega) (by omega), wsm (i := 1 + (p : Int) + ((p ^ 2 : Nat) : Int)) (by omega) (by omega), wsm (by omega) (by omega)]
    omega
  intro d
  induction d with
  | zero =>
    intro n c hn hc
    refine Ev.step (f := fun _ => some ((c : Int), true)) (fun k => ?_) ?_
    · rw [spec_FormCount.l0, eT, if_neg (by omega)]
    · simpa [cnt] using Ev.now ((c : Int), true)
  | succ d ih =>
    intro n c hn hc
    have hs : n < 1 + p + p ^ 2 + p ^ 3 := by omega
    have hm := sP_mem (p := p) (by omega) hs
    obtain ⟨i, j, hi, hj, hij⟩ := places_mem hm
    have hnum : numsB p (sP p n) 4 = true := by rw [hij]; exact placeRow_nums hp hi hj
    have hv := sValue_ev p f (sP p n) hb hl (numsB_prime hnum).2.1 (small_of h) (small_of hnum)
    refine Ev.step (f := fun k => (spec_l6sValue.f k p f (sP p n)).bind fun t => if t = 0 then spec_FormCount.l0 k p f ((c + 1 : Nat) : Int) ((n + 1 : Nat) : Int) else spec_FormCount.l0 k p f (c : Int) ((n + 1 : Nat) : Int)) (fun k => ?_) (Ev.bind hv ?_)
    · rw [spec_FormCount.l0, eT, if_pos (by omega), sPlace_eq p n (by omega) (by omega) hs, wsm (i := (n : Int) + 1) (by omega) (by omega), wsm (i := (c : Int) + 1) (by omega) (by omega)]
      rfl
    · rw [List.range'_succ, List.map_cons]
      refine Ev.ite (fun hz => ?_) (fun hz => ?_)
      · have := ih (n + 1) (c + 1) (by omega) (by omega)
        rw [show c + cnt p f (sP p n :: (List.range' (n + 1) d).map (sP p)) = c + 1 + cnt p f ((List.range' (n + 1) d).map (sP p)) from by simp [cnt, List.countP_cons, hz]; omega]
        exact this
      · have := ih (n + 1) c (by omega) (by omega)
        rw [show c + cnt p f (sP p n :: (List.range' (n + 1) d).map (sP p)) = c + cnt p f ((List.range' (n + 1) d).map (sP p)) from by simp [cnt, List.countP_cons, hz]]
        exact this
/-- what both FormCounts return -/
def countP (p : Int) (f : List Int) : Int × Bool := if numsB p f 20 = true then ((cnt p f (places p.toNat) : Nat), true) else (0, false)
theorem sFormCount_ev (p : Int) (f : List Int) (hl : f.length ≤ 1000000000) : Ev (fun k => spec_FormCount.f k p f) (countP p f) := by
  unfold spec_FormCount.f countP
  refine Ev.bind (FormIn_ev p f hl) ?_
  cases h : numsB p f 20
  · exact Ev.now _
  · simp only [if_true]
    have hb := prime_bd (numsB_prime h).1
    obtain ⟨q, rfl⟩ := Int.eq_ofNat_of_zero_le (show 0 ≤ p by omega)
    have := FormCount_l q f h (1 + q + q ^ 2 + q ^ 3) 0 0 (by omega) (by omega)
    rw [← List.range_eq_range', cnt_sP q (by omega) f] at this
    simpa using this
theorem iFormCount_eq (p : Int) (f : List Int) : impl_FormCount.f p f = some (countP p f) := by
  unfold impl_FormCount.f countP
  rw [show (20 : Int) = ((20 : Nat) : Int) from rfl, areNumbers_eq]
  cases h : numsB p f 20
  · rfl
  · simp only [Option.bind_some, if_true]
    rw [countI_eq h]

end Go.Proofs.Ytdgopdbmbaiddaa.PA
