/- Plain laws of what the printed functions compute. No conditions beside those that each states. -/
import Derived.Test.YtdgopdbmbaiddaaLCount
import Derived.Test.YtdgopdbmbaiddaaLCount1
import Derived.Test.YtdgopdbmbaiddaaLCount2
import Derived.Test.YtdgopdbmbaiddaaLVal
import Derived.Test.YtdgopdbmbaiddaaPAx3
import Derived.Test.YtdgopdbmbaiddaaPAx7
import Derived.Test.YtdgopdbmbaiddaaWMore
namespace Go.Proofs.Ytdgopdbmbaiddaa.PA
open Go.RowKit Go.Proofs.YtdgopdbmbaiddaaW.PrintWords Go.Proofs.YtdgopdbmbaiddaaW.PrintLast Go.Proofs.YtdgopdbmbaiddaaW.PrintMore
set_option linter.unusedVariables false
set_option linter.unusedSimpArgs false

/-- a count by halves: quick to reckon -/
def csum (g : Nat → Bool) : Nat → Nat → Nat
  | 0, lo => (g lo).toNat
  | d + 1, lo => csum g d lo + csum g d (lo + 2 ^ d)
theorem csum_eq (g : Nat → Bool) : ∀ d lo, csum g d lo = (List.range' lo (2 ^ d)).countP g
  | 0, lo => by cases h : g lo <;> simp [csum, h, List.range']
  | d + 1, lo => by
    rw [csum, csum_eq g d lo, csum_eq g d (lo + 2 ^ d), Nat.pow_succ, Nat.mul_two, ← List.range'_append_1, List.countP_append]
theorem csum_range (g : Nat → Bool) (n d : Nat) (h : n ≤ 2 ^ d) : (List.range n).countP g = csum (fun c => Nat.blt c n && g c) d 0 := by
  rw [csum_eq, ← List.range_eq_range', show 2 ^ d = n + (2 ^ d - n) from by omega, List.range_add, List.countP_append]
  have e1 : (List.range n).countP (fun c => Nat.blt c n && g c) = (List.range n).countP g := by
    refine List.countP_congr fun c hc => ?_
    have := List.mem_range.1 hc
    simp [Nat.blt_eq, this]
  have e2 : ((List.range (2 ^ d - n)).map (n + ·)).countP (fun c => Nat.blt c n && g c) = 0 := by
    rw [List.countP_eq_zero]
    intro c hc
    obtain ⟨x, _, rfl⟩ := List.mem_map.1 hc
    simp [Nat.blt]
    omega
  rw [e1, e2, Nat.add_zero]
/-- the form of cubes -/
def cubeF : List Int := [1, 0, 0, 0, 0, 0, 0, 0, 0, 0, 1, 0, 0, 0, 0, 0, 1, 0, 0, 1]
theorem xval_cube (a b c d : Int) : xval cubeF [a, b, c, d] = a * a * a + b * b * b + c * c * c + d * d * d := by
  simp [xval, xs0, xs1, xs2, tri, cubeF, rd]
def zeroAt (p a b c d : Nat) : Bool := (a * a * a + b * b * b + c * c * c + d * d * d) % p == 0
theorem zeroAt_eq (p a b c d : Nat) : ((xval cubeF [(a : Int), (b : Int), (c : Int), (d : Int)]) % (p : Int) == 0) = zeroAt p a b c d := by
  rw [xval_cube, zeroAt, Bool.eq_iff_iff, beq_iff_eq, beq_iff_eq]
  have : (a : Int) * a * a + b * b * b + c * c * c + d * d * d = ((a * a * a + b * b * b + c * c * c + d * d * d : Nat) : Int) := by simp
  rw [this]
  omega
def cubeCount (p : Nat) : Nat :=
  csum (fun c => Nat.blt c (p ^ 3) && zeroAt p 1 (c / p / p % p) (c / p % p) (c % p)) 15 0 + csum (fun c => Nat.blt c (p ^ 2) && zeroAt p 0 1 (c / p % p) (c % p)) 10 0 + csum (fun c => Nat.blt c p && zeroAt p 0 0 1 (c % p)) 5 0 + csum (fun c => Nat.blt c 1 && zeroAt p 0 0 0 1) 0 0
theorem cnt_cube (p : Nat) (h : p ≤ 31) : cnt p cubeF (places p) = cubeCount p := by
  obtain ⟨h0, h1, h2, h3⟩ := placeMany_3 p
  have hq := pow3_le h
  unfold cubeCount
  rw [← csum_range _ _ 15 (by omega), ← csum_range _ _ 10 (by omega), ← csum_range _ _ 5 (by omega), ← csum_range _ _ 0 (by omega)]
  rw [places_eq]
  simp only [cnt_append, rowFrom_all, h0, h1, h2, h3, List.append_nil]
  unfold cnt
  simp only [List.countP_map]
  have c0 : ∀ c : Nat, ((fun a => xval cubeF a % (p : Int) == 0) ∘ fun (c : Nat) => placeRow (p : Int) 0 (c : Int)) c = zeroAt p 1 (c / p / p % p) (c / p % p) (c % p) := fun c => by
    rw [← zeroAt_eq]; simp [placeRow]
  have c1 : ∀ c : Nat, ((fun a => xval cubeF a % (p : Int) == 0) ∘ fun (c : Nat) => placeRow (p : Int) 1 (c : Int)) c = zeroAt p 0 1 (c / p % p) (c % p) := fun c => by
    rw [← zeroAt_eq]; simp [placeRow]
  have c2 : ∀ c : Nat, ((fun a => xval cubeF a % (p : Int) == 0) ∘ fun (c : Nat) => placeRow (p : Int) 2 (c : Int)) c = zeroAt p 0 0 1 (c % p) := fun c => by
    rw [← zeroAt_eq]; simp [placeRow]
  have c3 : ∀ c : Nat, ((fun a => xval cubeF a % (p : Int) == 0) ∘ fun (c : Nat) => placeRow (p : Int) 3 (c : Int)) c = zeroAt p 0 0 0 1 := fun c => by
    rw [← zeroAt_eq]; simp [placeRow]
  rw [funext c0, funext c1, funext c2, funext c3]
  omega
theorem cubeCounts : cubeCount 7 = 99 ∧ cubeCount 13 = 261 ∧ cubeCount 19 = 495 ∧ cubeCount 31 = 1179 := by decide +kernel

end Go.Proofs.Ytdgopdbmbaiddaa.PA
