/- Plain laws of what the printed functions compute. No conditions beside those that each states. -/
import Derived.Test.YtdgopdbmbaiddaaLBase
import Derived.Test.YtdgopdbmbaiddaaLPrim
import Derived.Test.YtdgopdbmbaiddaaLVal
import Derived.Test.YtdgopdbmbaiddaaPAx2
import Derived.Test.YtdgopdbmbaiddaaPAx3
import Derived.Test.YtdgopdbmbaiddaaWMore
namespace Go.Proofs.Ytdgopdbmbaiddaa.PA
open Go.RowKit Go.Proofs.YtdgopdbmbaiddaaW.PrintWords Go.Proofs.YtdgopdbmbaiddaaW.PrintLast Go.Proofs.YtdgopdbmbaiddaaW.PrintMore
set_option linter.unusedVariables false
set_option linter.unusedSimpArgs false

theorem placeRow_len (p : Int) (n : Nat) (c : Int) : (placeRow p n c).length = 4 := by
  unfold placeRow; split <;> rfl
theorem places_eq (p : Nat) : places p = rowFrom p 0 0 ++ (rowFrom p 1 0 ++ (rowFrom p 2 0 ++ (rowFrom p 3 0 ++ []))) := rfl
theorem rowFrom_all (p n : Nat) : rowFrom p n 0 = (List.range (placeMany p n)).map fun (c : Nat) => placeRow p n (c : Int) := by
  rw [rowFrom, Nat.sub_zero, List.range_eq_range']
theorem places_mem {p : Nat} {a : List Int} (h : a ∈ places p) : ∃ n c : Nat, n ≤ 3 ∧ c < placeMany p n ∧ a = placeRow p n c := by
  rw [places_eq] at h
  simp only [rowFrom_all, List.mem_append, List.mem_map, List.mem_range, List.not_mem_nil, or_false] at h
  rcases h with ⟨c, hc, rfl⟩ | ⟨c, hc, rfl⟩ | ⟨c, hc, rfl⟩ | ⟨c, hc, rfl⟩
  · exact ⟨0, c, by omega, hc, rfl⟩
  · exact ⟨1, c, by omega, hc, rfl⟩
  · exact ⟨2, c, by omega, hc, rfl⟩
  · exact ⟨3, c, by omega, hc, rfl⟩
theorem placeRow_nums {p : Nat} (hp : primeB p = true) {n c : Nat} (hn : n ≤ 3) (hc : c < placeMany p n) : numsB p (placeRow p n c) 4 = true := by
  have hb := prime_bd hp
  have h1 := Int.emod_nonneg (c : Int) (show (p : Int) ≠ 0 by omega)
  have h2 := Int.emod_lt_of_pos (c : Int) (show 0 < (p : Int) by omega)
  have h3 := Int.emod_nonneg ((c : Int) / p) (show (p : Int) ≠ 0 by omega)
  have h4 := Int.emod_lt_of_pos ((c : Int) / p) (show 0 < (p : Int) by omega)
  have h5 := Int.emod_nonneg ((c : Int) / p / p) (show (p : Int) ≠ 0 by omega)
  have h6 := Int.emod_lt_of_pos ((c : Int) / p / p) (show 0 < (p : Int) by omega)
  refine numsB_mk hp (placeRow_len _ _ _) (fun x hx => ?_)
  unfold placeRow at hx
  split at hx <;> simp only [List.mem_cons, List.not_mem_nil, or_false] at hx <;> rcases hx with rfl | rfl | rfl | rfl <;> omega
/-- how many of some places the form is 0 at -/
def cnt (p : Int) (f : List Int) (L : List (List Int)) : Nat := L.countP fun a => xval f a % p == 0
theorem runs_cnt (p : Int) (f : List Int) (sf : small f) : ∀ (L : List (List Int)) (c : Int), (∀ a ∈ L, small a) → 0 ≤ c → c + L.length ≤ 1000000000 → runs (countStep p f) c L = c + cnt p f L
  | [], c, _, _, _ => by simp [runs, cnt]
  | a :: L, c, hs, h0, h1 => by
    have sa := hs a (List.mem_cons_self)
    rw [runs, if_pos (by rfl)]
    simp only [List.length_cons] at h1
    by_cases hz : xval f a % p = 0
    · rw [show (countStep p f c a).1 = c + 1 from by rw [countStep, valI_eq sf sa, if_pos hz, wsm (by omega) (by omega)]]
      rw [runs_cnt p f sf L (c + 1) (fun b hb => hs b (List.mem_cons_of_mem _ hb)) (by omega) (by omega)]
      simp only [cnt, List.countP_cons, hz, beq_self_eq_true, if_true]
      omega
    · rw [show (countStep p f c a).1 = c from by rw [countStep, valI_eq sf sa, if_neg hz], runs_cnt p f sf L c (fun b hb => hs b (List.mem_cons_of_mem _ hb)) (by omega) (by omega)]
      simp [cnt, List.countP_cons, hz]
theorem placeMany_3 (p : Nat) : placeMany p 0 = p ^ 3 ∧ placeMany p 1 = p ^ 2 ∧ placeMany p 2 = p ∧ placeMany p 3 = 1 := by simp [placeMany]
theorem places_length (p : Nat) : (places p).length = p ^ 3 + (p ^ 2 + (p + 1)) := by
  rw [places_eq]
  simp [rowFrom_all, placeMany_3 p]
theorem pow3_le {p : Nat} (h : p ≤ 31) : p ^ 3 ≤ 29791 ∧ p ^ 2 ≤ 961 := ⟨Nat.le_trans (Nat.pow_le_pow_left h 3) (by decide), Nat.le_trans (Nat.pow_le_pow_left h 2) (by decide)⟩
theorem countI_eq {p : Int} {f : List Int} (h : numsB p f 20 = true) : countI p f = cnt p f (places p.toNat) := by
  obtain ⟨hp, hl, hr⟩ := numsB_prime h
  have hb := prime_bd hp
  obtain ⟨q, rfl⟩ := Int.eq_ofNat_of_zero_le (show 0 ≤ p by omega)
  have hq := pow3_le (p := q) (by omega)
  rw [countI, Int.toNat_natCast, runs_cnt _ _ (small_of h) _ _ ?_ (by omega) ?_, Int.zero_add]
  · intro a ha
    obtain ⟨n, c, hn, hc, rfl⟩ := places_mem ha
    exact small_of (placeRow_nums hp hn hc)
  · rw [places_length]; omega

end Go.Proofs.Ytdgopdbmbaiddaa.PA
