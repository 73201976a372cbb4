/- Plain laws of what the printed functions compute. No conditions beside those that each states. -/
import Derived.Test.YtdgopdbmbaiddaaLBase
import Derived.Test.YtdgopdbmbaiddaaLPrim
import Derived.Test.YtdgopdbmbaiddaaLRow1
import Derived.Test.YtdgopdbmbaiddaaPAx1
import Derived.Test.YtdgopdbmbaiddaaPAx4
import Derived.Test.YtdgopdbmbaiddaaWMore
namespace Go.Proofs.Ytdgopdbmbaiddaa.PA
open Go.RowKit Go.Proofs.YtdgopdbmbaiddaaW.PrintWords Go.Proofs.YtdgopdbmbaiddaaW.PrintLast Go.Proofs.YtdgopdbmbaiddaaW.PrintMore
set_option linter.unusedVariables false
set_option linter.unusedSimpArgs false

/-- the first number that is not 0 (0 if there is none) -/
def headP (l : List Int) : Int := (l.find? (fun x => x != 0)).getD 0
/-- a row divided by its first number that is not 0 -/
def rowP (p : Int) (l : List Int) : List Int := l.map fun x => x * invP p (headP l) % p
theorem headP_cons (x : Int) (l : List Int) : headP (x :: l) = if x = 0 then headP l else x := by
  unfold headP
  by_cases h : x = 0
  · simp [h]
  · simp [h]
theorem headP_range {p : Int} {l : List Int} (hr : ∀ x ∈ l, 0 ≤ x ∧ x < p) (hp : 0 < p) : 0 ≤ headP l ∧ headP l < p := by
  unfold headP
  cases h : l.find? (fun x => x != 0) with
  | none => simp; omega
  | some y => exact hr y (List.mem_of_find?_eq_some h)
theorem mul30 {p x y : Int} (hp : p ≤ 31) (h0 : 0 ≤ x) (h1 : x < p) (h2 : 0 ≤ y) (h3 : y < p) : 0 ≤ x * y ∧ x * y ≤ 900 := by
  have h := Int.mul_le_mul (show x ≤ 30 by omega) (show y ≤ 30 by omega) h2 (by omega)
  exact ⟨Int.mul_nonneg h0 h2, by omega⟩
theorem l4Row_l {p : Int} (hp : primeB p = true) (l : List Int) (hr : ∀ x ∈ l, 0 ≤ x ∧ x < p) (hl : l.length ≤ 1000) : ∀ (d i : Nat) (acc : List Int) (n : Int), i + d = l.length → acc.length = i → (n = 0 ∨ 0 ≤ n ∧ n < p) →
    Ev (fun k => spec_l4Row.l0 k p l acc n (i : Int)) (acc ++ (l.drop i).map fun x => x * (if n = 0 then invP p (headP (l.drop i)) else n) % p)
  | 0, i, acc, n, h, ha, hn => by
    refine Ev.step (f := fun _ => some acc) (fun k => ?_) ?_
    · rw [spec_l4Row.l0, if_neg (by omega)]
    · rw [List.drop_eq_nil_of_le (by omega)]; simpa using Ev.now acc
  | d + 1, i, acc, n, h, ha, hn => by
    have hb := prime_bd hp
    have hi : i < l.length := by omega
    have hx := hr _ (List.getElem_mem hi)
    rw [← rd_at l i hi] at hx
    rw [rd_drop l i hi]
    by_cases h0 : n = 0
    · have hv := invP_spec hp hx.1 hx.2
      have hm := mul30 hb.2 hx.1 hx.2 hv.2.1 hv.2.2.1
      refine Ev.step (f := fun k => (spec_l4Turned.f k p (rd l (i : Int))).bind fun t => spec_l4Row.l0 k p l (acc ++ [Int.tmod (wrap64 ((rd l (i : Int)) * t)) p]) t ((i + 1 : Nat) : Int)) (fun k => ?_) (Ev.bind (turned_ev hp hx.1 hx.2) ?_)
      · rw [spec_l4Row.l0, if_pos (by omega), if_pos h0, if_pos (by omega)]
        congr 1
        funext t
        rw [if_neg (by omega), if_pos (by omega), wsm (i := (i : Int) + 1) (by omega) (by omega)]
        rfl
      · have ih := l4Row_l hp l hr hl d (i + 1) (acc ++ [Int.tmod (wrap64 ((rd l (i : Int)) * invP p (rd l (i : Int)))) p]) (invP p (rd l (i : Int))) (by omega) (by simp [ha]) (.inr ⟨hv.2.1, hv.2.2.1⟩)
        rw [wsm (by omega) (by omega), Int.tmod_eq_emod_of_nonneg hm.1] at ih ⊢
        rw [List.append_assoc] at ih
        rw [headP_cons, if_pos h0]
        by_cases hz : rd l (i : Int) = 0
        · rw [if_pos hz]
          rw [if_pos (hv.2.2.2.2 hz)] at ih
          simp only [hz, Int.zero_mul, List.map_cons] at ih ⊢
          exact ih
        · rw [if_neg hz]
          rw [if_neg (invP_ne hp hx.1 hx.2 hz)] at ih
          simpa using ih
    · have hn' : 0 ≤ n ∧ n < p := by rcases hn with h | h; exact absurd h h0; exact h
      have hm := mul30 hb.2 hx.1 hx.2 hn'.1 hn'.2
      refine Ev.step (f := fun k => spec_l4Row.l0 k p l (acc ++ [Int.tmod (wrap64 ((rd l (i : Int)) * n)) p]) n ((i + 1 : Nat) : Int)) (fun k => ?_) ?_
      · rw [spec_l4Row.l0, if_pos (by omega), if_neg h0, if_pos (by omega), if_neg (by omega), if_pos (by omega), wsm (i := (i : Int) + 1) (by omega) (by omega)]
        rfl
      · have ih := l4Row_l hp l hr hl d (i + 1) (acc ++ [Int.tmod (wrap64 ((rd l (i : Int)) * n)) p]) n (by omega) (by simp [ha]) hn
        rw [wsm (by omega) (by omega), Int.tmod_eq_emod_of_nonneg hm.1] at ih ⊢
        rw [if_neg h0] at ih ⊢
        simpa using ih
theorem l4Row_ev {p : Int} (hp : primeB p = true) (l : List Int) (hr : ∀ x ∈ l, 0 ≤ x ∧ x < p) (hl : l.length ≤ 1000) : Ev (fun k => spec_l4Row.f k p l) (rowP p l) := by
  have := l4Row_l hp l hr hl l.length 0 [] 0 (by omega) rfl (.inl rfl)
  unfold spec_l4Row.f
  simpa [rowP] using this

end Go.Proofs.Ytdgopdbmbaiddaa.PA
