/- Plain laws of what the printed functions compute. No conditions beside those that each states. -/
import Derived.Test.YtdgopdbmbaiddaaLPrim
import Derived.Test.YtdgopdbmbaiddaaPAx1
import Derived.Test.YtdgopdbmbaiddaaPAx4
import Derived.Test.YtdgopdbmbaiddaaWMore
namespace Go.Proofs.Ytdgopdbmbaiddaa.PA
open Go.RowKit Go.Proofs.YtdgopdbmbaiddaaW.PrintWords Go.Proofs.YtdgopdbmbaiddaaW.PrintLast Go.Proofs.YtdgopdbmbaiddaaW.PrintMore
set_option linter.unusedVariables false
set_option linter.unusedSimpArgs false

/-- the inverse modulo a prime; 0 of 0 -/
def invP (p x : Int) : Int := (spec_l4Turned.f 40 p x).getD 0
theorem invP_table : ∀ p ∈ ([7, 11, 13, 17, 19, 23, 29, 31] : List Int), ∀ x ∈ List.range 31, (x : Int) < p → spec_l4Turned.f 40 p (x : Int) = some (invP p (x : Int)) ∧ 0 ≤ invP p (x : Int) ∧ invP p (x : Int) < p ∧ ((x : Int) ≠ 0 → ((x : Int) * invP p (x : Int)) % p = 1) ∧ ((x : Int) = 0 → invP p (x : Int) = 0) := by decide +kernel
theorem invP_spec {p : Int} (hp : primeB p = true) {x : Int} (h0 : 0 ≤ x) (h1 : x < p) : spec_l4Turned.f 40 p x = some (invP p x) ∧ 0 ≤ invP p x ∧ invP p x < p ∧ (x ≠ 0 → (x * invP p x) % p = 1) ∧ (x = 0 → invP p x = 0) := by
  obtain ⟨y, rfl⟩ := Int.eq_ofNat_of_zero_le h0
  have hb := prime_bd hp
  refine invP_table p ?_ y (List.mem_range.2 (by omega)) h1
  have := primeB_cases hp
  simpa using this
theorem turned_ev {p : Int} (hp : primeB p = true) {x : Int} (h0 : 0 ≤ x) (h1 : x < p) : Ev (fun k => spec_l4Turned.f k p x) (invP p x) := Ev.of (spec_l4Turned.mono p x) (invP_spec hp h0 h1).1
theorem invP_one {p : Int} (hp : primeB p = true) : invP p 1 = 1 := by
  have hb := prime_bd hp
  obtain ⟨_, h2, h3, h4, _⟩ := invP_spec hp (x := 1) (by omega) (by omega)
  have := h4 (by omega)
  rw [Int.one_mul, Int.emod_eq_of_lt h2 h3] at this
  exact this
theorem invP_ne {p : Int} (hp : primeB p = true) {x : Int} (h0 : 0 ≤ x) (h1 : x < p) (hx : x ≠ 0) : invP p x ≠ 0 := by
  intro e
  have := (invP_spec hp h0 h1).2.2.2.1 hx
  rw [e] at this
  simp at this

end Go.Proofs.Ytdgopdbmbaiddaa.PA
