/- Plain laws of what the printed functions compute. No conditions beside those that each states. -/
import Derived.Test.YtdgopdbmbaiddaaLBase
import Derived.Test.YtdgopdbmbaiddaaPAx1
import Derived.Test.YtdgopdbmbaiddaaPAx2
import Derived.Test.YtdgopdbmbaiddaaWMore
namespace Go.Proofs.Ytdgopdbmbaiddaa.PA
open Go.RowKit Go.Proofs.YtdgopdbmbaiddaaW.PrintWords Go.Proofs.YtdgopdbmbaiddaaW.PrintLast Go.Proofs.YtdgopdbmbaiddaaW.PrintMore
set_option linter.unusedVariables false
set_option linter.unusedSimpArgs false

theorem PrimeIn_eq (p : Int) : spec_PrimeIn.f p = some (primeB p) := by
  unfold spec_PrimeIn.f primeB
  repeat' split
  all_goals first | (subst_vars; rfl) | (congr 1; symm; rw [decide_eq_true_iff]; omega) | (congr 1; symm; rw [decide_eq_false_iff_not]; omega)
theorem primeB_cases {p : Int} (h : primeB p = true) : p = 7 ∨ p = 11 ∨ p = 13 ∨ p = 17 ∨ p = 19 ∨ p = 23 ∨ p = 29 ∨ p = 31 := of_decide_eq_true h
theorem isPrime_ev (p : Int) : Ev (fun k => impl_isPrime.f k p) (primeB p) := Ev.of (impl_isPrime.mono p) (isPrime_f p)
/-- n numbers modulo a prime -/
def numsB (p : Int) (l : List Int) (n : Nat) : Bool := primeB p && decide (l.length = n) && l.all fun x => decide (0 ≤ x) && decide (x < p)
theorem areNumbers_eq (p : Int) (l : List Int) (n : Nat) : impl_areNumbers.f p l (n : Int) = some (numsB p l n) := by
  unfold impl_areNumbers.f numsB
  congr 3
  rw [Bool.eq_iff_iff, decide_eq_true_iff, decide_eq_true_iff]
  omega
theorem numsB_prime {p : Int} {l : List Int} {n : Nat} (h : numsB p l n = true) : primeB p = true ∧ l.length = n ∧ ∀ x ∈ l, 0 ≤ x ∧ x < p := by
  unfold numsB at h
  rw [Bool.and_eq_true, Bool.and_eq_true] at h
  refine ⟨h.1.1, of_decide_eq_true h.1.2, fun x hx => ?_⟩
  have := List.all_eq_true.1 h.2 x hx
  rw [Bool.and_eq_true] at this
  exact ⟨of_decide_eq_true this.1, of_decide_eq_true this.2⟩
theorem numsB_mk {p : Int} {l : List Int} {n : Nat} (h1 : primeB p = true) (h2 : l.length = n) (h3 : ∀ x ∈ l, 0 ≤ x ∧ x < p) : numsB p l n = true := by
  unfold numsB
  rw [h1, decide_eq_true h2, Bool.true_and, Bool.true_and, List.all_eq_true]
  intro x hx
  rw [decide_eq_true (h3 x hx).1, decide_eq_true (h3 x hx).2]; rfl
theorem prime_bd {p : Int} (h : primeB p = true) : 7 ≤ p ∧ p ≤ 31 := by have := primeB_cases h; omega
theorem rd_range {p : Int} {l : List Int} {n : Nat} (h : numsB p l n = true) (i : Int) (h0 : 0 ≤ i) (h1 : i < n) : 0 ≤ rd l i ∧ rd l i < p := by
  obtain ⟨_, hl, hr⟩ := numsB_prime h
  obtain ⟨j, rfl⟩ := Int.eq_ofNat_of_zero_le h0
  rw [rd_at l j (by omega)]
  exact hr _ (List.getElem_mem _)
theorem l6In_eq (a b c : Int) : spec_l6In.f a b c = some (decide (b ≤ a) && decide (a ≤ c)) := by
  unfold spec_l6In.f
  by_cases h : a ≥ b
  · rw [if_pos h, decide_eq_true (show b ≤ a from h), Bool.true_and]
  · rw [if_neg h, decide_eq_false (show ¬ b ≤ a from h), Bool.false_and]
theorem all_low {p : Int} (h : primeB p = true) (x : Int) : (decide (0 ≤ x) && decide (x ≤ wrap64 (p - 1))) = (decide (0 ≤ x) && decide (x < p)) := by
  have := prime_bd h
  rw [wsm (by omega) (by omega)]
  congr 1
  rw [Bool.eq_iff_iff, decide_eq_true_iff, decide_eq_true_iff]
  omega
theorem FormIn_l (p : Int) (l : List Int) (hl : l.length ≤ 1000000000) : ∀ (d : Nat) (i : Nat), i + d = l.length → Ev (fun k => spec_FormIn.l0 k p l (i : Int)) (((l.drop i).all fun x => decide (0 ≤ x) && decide (x ≤ wrap64 (p - 1))) && primeB p && decide (l.length = 20))
  | 0, i, h => by
    refine Ev.step (f := fun _ => some (primeB p && decide (l.length = 20))) (fun k => ?_) ?_
    · rw [spec_FormIn.l0, if_neg (by omega), PrimeIn_eq]
      cases primeB p
      · rfl
      · simp only [Option.bind_some, if_true, Bool.true_and]
        congr 1
        rw [Bool.eq_iff_iff, beq_iff_eq, decide_eq_true_iff]; omega
    · rw [List.drop_eq_nil_of_le (by omega)]; exact Ev.now _
  | d + 1, i, h => by
    have ih := FormIn_l p l hl d (i + 1) (by omega)
    rw [rd_drop l i (by omega), List.all_cons]
    cases hb : (decide (0 ≤ rd l (i : Int)) && decide (rd l (i : Int) ≤ wrap64 (p - 1)))
    · refine Ev.step (f := fun _ => some false) (fun k => ?_) ?_
      · rw [spec_FormIn.l0, if_pos (by omega), if_pos (by omega), l6In_eq, hb]; rfl
      · exact Ev.now _
    · refine Ev.step (f := fun k => spec_FormIn.l0 k p l ((i + 1 : Nat) : Int)) (fun k => ?_) ?_
      · rw [spec_FormIn.l0, if_pos (by omega), if_pos (by omega), l6In_eq, hb, wsm (by omega) (by omega)]
        simp
      · simpa using ih
theorem FormIn_ev (p : Int) (l : List Int) (hl : l.length ≤ 1000000000) : Ev (fun k => spec_FormIn.f k p l) (numsB p l 20) := by
  have h := FormIn_l p l hl l.length 0 (by omega)
  unfold spec_FormIn.f
  have e : ((l.all fun x => decide (0 ≤ x) && decide (x ≤ wrap64 (p - 1))) && primeB p && decide (l.length = 20)) = numsB p l 20 := by
    unfold numsB
    cases hp : primeB p
    · simp
    · have : (fun x => decide (0 ≤ x) && decide (x ≤ wrap64 (p - 1))) = (fun x => decide (0 ≤ x) && decide (x < p)) := funext fun x => all_low hp x
      rw [this]
      cases (l.all fun x => decide (0 ≤ x) && decide (x < p)) <;> cases decide (l.length = 20) <;> rfl
  rw [← e]
  simpa using h

end Go.Proofs.Ytdgopdbmbaiddaa.PA
