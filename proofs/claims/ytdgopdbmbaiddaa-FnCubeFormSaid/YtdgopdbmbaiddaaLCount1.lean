/- Plain laws of what the printed functions compute. No conditions beside those that each states. -/
import Derived.Test.YtdgopdbmbaiddaaLBase
import Derived.Test.YtdgopdbmbaiddaaLCount
import Derived.Test.YtdgopdbmbaiddaaPAx1
import Derived.Test.YtdgopdbmbaiddaaPAx3
import Derived.Test.YtdgopdbmbaiddaaWMore
namespace Go.Proofs.Ytdgopdbmbaiddaa.PA
open Go.RowKit Go.Proofs.YtdgopdbmbaiddaaW.PrintWords Go.Proofs.YtdgopdbmbaiddaaW.PrintLast Go.Proofs.YtdgopdbmbaiddaaW.PrintMore
set_option linter.unusedVariables false
set_option linter.unusedSimpArgs false

/-- the reference's order of the places -/
def sP (p : Nat) (n : Nat) : List Int :=
  if n = 0 then placeRow p 3 0 else if n - 1 < p then placeRow p 2 ((n - 1 : Nat) : Int) else if n - 1 - p < p ^ 2 then placeRow p 1 ((n - 1 - p : Nat) : Int) else placeRow p 0 ((n - 1 - p - p ^ 2 : Nat) : Int)
theorem div_lt_p {p c : Nat} (hp : 0 < p) (h : c < p ^ 2) : c / p % p = c / p := Nat.mod_eq_of_lt (by rw [Nat.div_lt_iff_lt_mul hp]; rwa [Nat.pow_two] at h)
theorem wdiv (x q : Nat) (hx : x ≤ 1000000000) : wrap64 (Int.tdiv (x : Int) (q : Int)) = ((x / q : Nat) : Int) := by
  rw [← Int.ofNat_tdiv]
  have := Nat.div_le_self x q
  generalize x / q = y at this
  exact wsm (by omega) (by omega)
theorem wmod (x q : Nat) : Int.tmod (x : Int) (q : Int) = ((x % q : Nat) : Int) := (Int.ofNat_tmod x q).symm
theorem sPlace_eq (p n : Nat) (h7 : 7 ≤ p) (h31 : p ≤ 31) (hn : n < 1 + p + p ^ 2 + p ^ 3) : spec_l6sPlace.f (p : Int) (n : Int) = some (sP p n) := by
  have hq := pow3_le h31
  have e2 : (p : Int) * (p : Int) = ((p ^ 2 : Nat) : Int) := by rw [Nat.pow_two]; simp
  have hp2 : 49 ≤ p ^ 2 := by rw [Nat.pow_two]; exact Nat.mul_le_mul h7 h7
  unfold spec_l6sPlace.f sP
  rw [e2, wsm (i := ((p ^ 2 : Nat) : Int)) (by omega) (by omega)]
  by_cases h0 : n = 0
  · rw [if_pos (by omega), if_pos h0]; rfl
  rw [if_neg (by omega), if_neg h0, wsm (i := (n : Int) - 1) (by omega) (by omega)]
  by_cases h1 : n - 1 < p
  · rw [if_pos (by omega), if_pos h1]
    simp only [placeRow]
    rw [Int.emod_eq_of_lt (by omega) (by omega), show (((n - 1 : Nat)) : Int) = (n : Int) - 1 from by omega]
  rw [if_neg (by omega), if_neg h1, wsm (i := (n : Int) - 1 - p) (by omega) (by omega)]
  obtain ⟨m, hm⟩ : ∃ m : Nat, m = n - 1 - p := ⟨_, rfl⟩
  rw [show (n : Int) - 1 - p = (m : Int) from by omega, ← hm]
  by_cases h2 : m < p ^ 2
  · rw [if_pos (by omega), if_neg (by omega), if_pos h2, wdiv m p (by omega), wmod]
    simp only [placeRow]
    rw [← Int.natCast_ediv, ← Int.natCast_emod, ← Int.natCast_emod, div_lt_p (by omega) h2]
  · rw [if_neg (by omega), if_neg (by omega), if_neg (by omega), if_neg h2]
    obtain ⟨c, hc⟩ : ∃ c : Nat, c = m - p ^ 2 := ⟨_, rfl⟩
    rw [wsm (i := (m : Int) - ((p ^ 2 : Nat) : Int)) (by omega) (by omega), show (m : Int) - ((p ^ 2 : Nat) : Int) = (c : Int) from by omega, ← hc, wdiv c (p ^ 2) (by omega), wdiv c p (by omega), wmod, wmod]
    have hc3 : c < p ^ 3 := by omega
    have hd : c / p ^ 2 % p = c / p ^ 2 := Nat.mod_eq_of_lt (by rw [Nat.div_lt_iff_lt_mul (by omega)]; rwa [Nat.pow_succ, Nat.mul_comm] at hc3)
    simp only [placeRow]
    rw [← Int.natCast_ediv, ← Int.natCast_ediv, ← Int.natCast_emod, ← Int.natCast_emod, ← Int.natCast_emod, Nat.div_div_eq_div_mul, ← Nat.pow_two, hd]
theorem cnt_append (p : Int) (f : List Int) (L M : List (List Int)) : cnt p f (L ++ M) = cnt p f L + cnt p f M := by simp [cnt, List.countP_append]
theorem range_shift (a b : Nat) (g : Nat → List Int) : (List.range (a + b)).map g = (List.range a).map g ++ (List.range b).map fun i => g (a + i) := by
  rw [List.range_add, List.map_append, List.map_map]; rfl
theorem sP_list (p : Nat) (hp : 0 < p) : (List.range (1 + p + p ^ 2 + p ^ 3)).map (sP p) = rowFrom p 3 0 ++ (rowFrom p 2 0 ++ (rowFrom p 1 0 ++ rowFrom p 0 0)) := by
  obtain ⟨h0, h1, h2, h3⟩ := placeMany_3 p
  rw [range_shift, range_shift, range_shift]
  simp only [rowFrom_all, h0, h1, h2, h3, List.append_assoc]
  congr 1
  congr 1
  · refine List.map_congr_left fun i hi => ?_
    have := List.mem_range.1 hi
    rw [sP, if_neg (by omega), if_pos (by omega), show 1 + i - 1 = i from by omega]
  congr 1
  · refine List.map_congr_left fun i hi => ?_
    have := List.mem_range.1 hi
    rw [sP, if_neg (by omega), if_neg (by omega), if_pos (by omega), show 1 + p + i - 1 - p = i from by omega]
  · refine List.map_congr_left fun i hi => ?_
    have := List.mem_range.1 hi
    rw [sP, if_neg (by omega), if_neg (by omega), if_neg (by omega), show 1 + p + p ^ 2 + i - 1 - p - p ^ 2 = i from by omega]
theorem cnt_sP (p : Nat) (hp : 0 < p) (f : List Int) : cnt p f ((List.range (1 + p + p ^ 2 + p ^ 3)).map (sP p)) = cnt p f (places p) := by
  rw [sP_list p hp, places_eq]
  simp only [cnt_append, List.append_nil]
  omega
theorem sP_mem {p n : Nat} (hp : 0 < p) (hn : n < 1 + p + p ^ 2 + p ^ 3) : sP p n ∈ places p := by
  have : sP p n ∈ (List.range (1 + p + p ^ 2 + p ^ 3)).map (sP p) := List.mem_map_of_mem (List.mem_range.2 hn)
  rw [sP_list p hp] at this
  rw [places_eq]
  simp only [List.mem_append, List.append_nil] at *
  rcases this with h | h | h | h
  · exact .inr (.inr (.inr h))
  · exact .inr (.inr (.inl h))
  · exact .inr (.inl h)
  · exact .inl h

end Go.Proofs.Ytdgopdbmbaiddaa.PA
