/- Plain laws of what the printed functions compute. No conditions beside those that each states. -/
import Derived.Test.YtdgopdbmbaiddaaLBase
import Derived.Test.YtdgopdbmbaiddaaLPrim
import Derived.Test.YtdgopdbmbaiddaaLVal
import Derived.Test.YtdgopdbmbaiddaaPAx1
import Derived.Test.YtdgopdbmbaiddaaPAx2
import Derived.Test.YtdgopdbmbaiddaaPAx3
import Derived.Test.YtdgopdbmbaiddaaWMore
namespace Go.Proofs.Ytdgopdbmbaiddaa.PA
open Go.RowKit Go.Proofs.YtdgopdbmbaiddaaW.PrintWords Go.Proofs.YtdgopdbmbaiddaaW.PrintLast Go.Proofs.YtdgopdbmbaiddaaW.PrintMore
set_option linter.unusedVariables false
set_option linter.unusedSimpArgs false

theorem placeRow_len (p : Int) (n : Nat) (c : Int) : (placeRow p n c).length = 4 := by
  unfold placeRow; split <;> rfl
theorem places_eq (p : Nat) : places p = rowFrom p 0 0 ++ (rowFrom p 1 0 ++ (rowFrom p 2 0 ++ (rowFrom p 3 0 ++ []))) := rfl
theorem rowFrom_all (p n : Nat) : rowFrom p n 0 = (List.range (placeMany p n)).map fun (c : Nat) => placeRow p n (c : Int) := by
  rw [rowFrom, Nat.sub_zero, List.range_eq_range']
theorem places_mem {p : Nat} {a : List Int} (h : a ∈ places p) : ∃ n c : Nat, n ≤ 3 ∧ c < placeMany p n ∧ a = placeRow p n c := by
  rw [places_eq] at h
  simp only [rowFrom_all, List.mem_append, List.mem_map, List.mem_range, List.not_mem_nil, or_false] at h
  rcases h with ⟨c, hc, rfl⟩ | ⟨c, hc, rfl⟩ | ⟨c, hc, rfl⟩ | ⟨c, hc, rfl⟩
  · exact ⟨0, c, by omega, hc, rfl⟩
  · exact ⟨1, c, by omega, hc, rfl⟩
  · exact ⟨2, c, by omega, hc, rfl⟩
  · exact ⟨3, c, by omega, hc, rfl⟩
theorem placeRow_nums {p : Nat} (hp : primeB p = true) {n c : Nat} (hn : n ≤ 3) (hc : c < placeMany p n) : numsB p (placeRow p n c) 4 = true := by
  have hb := prime_bd hp
  have h1 := Int.emod_nonneg (c : Int) (show (p : Int) ≠ 0 by omega)
  have h2 := Int.emod_lt_of_pos (c : Int) (show 0 < (p : Int) by omega)
  have h3 := Int.emod_nonneg ((c : Int) / p) (show (p : Int) ≠ 0 by omega)
  have h4 := Int.emod_lt_of_pos ((c : Int) / p) (show 0 < (p : Int) by omega)
  have h5 := Int.emod_nonneg ((c : Int) / p / p) (show (p : Int) ≠ 0 by omega)
  have h6 := Int.emod_lt_of_pos ((c : Int) / p / p) (show 0 < (p : Int) by omega)
  refine numsB_mk hp (placeRow_len _ _ _) (fun x hx => ?_)
  unfold placeRow at hx
  split at hx <;> simp only [List.mem_cons, List.not_mem_nil, or_false] at hx <;> rcases hx with rfl | rfl | rfl | rfl <;> omega
/-- how many of some places the form is 0 at -/
def cnt (p : Int) (f : List Int) (L : List (List Int)) : Nat := L.countP fun a => xval f a % p == 0
theorem runs_cnt (p : Int) (f : List Int) (sf : small f) : ∀ (L : List (List Int)) (c : Int), (∀ a ∈ L, small a) → 0 ≤ c → c + L.length ≤ 1000000000 → runs (countStep p f) c L = c + cnt p f L
  | [], c, _, _, _ => by simp [runs, cnt]
  | a :: L, c, hs, h0, h1 => by
    have sa := hs a (List.mem_cons_self)
    rw [runs, if_pos (by rfl)]
    simp only [List.length_cons] at h1
    by_cases hz : xval f a % p = 0
    · rw [show (countStep p f c a).1 = c + 1 from by rw [countStep, valI_eq sf sa, if_pos hz, wsm (by omega) (by omega)]]
      rw [runs_cnt p f sf L (c + 1) (fun b hb => hs b (List.mem_cons_of_mem _ hb)) (by omega) (by omega)]
      simp only [cnt, List.countP_cons, hz, beq_self_eq_true, if_true]
      omega
    · rw [show (countStep p f c a).1 = c from by rw [countStep, valI_eq sf sa, if_neg hz], runs_cnt p f sf L c (fun b hb => hs b (List.mem_cons_of_mem _ hb)) (by omega) (by omega)]
      simp [cnt, List.countP_cons, hz]
theorem placeMany_3 (p : Nat) : placeMany p 0 = p ^ 3 ∧ placeMany p 1 = p ^ 2 ∧ placeMany p 2 = p ∧ placeMany p 3 = 1 := by simp [placeMany]
theorem places_length (p : Nat) : (places p).length = p ^ 3 + (p ^ 2 + (p + 1)) := by
  rw [places_eq]
  simp [rowFrom_all, placeMany_3 p]
theorem pow3_le {p : Nat} (h : p ≤ 31) : p ^ 3 ≤ 29791 ∧ p ^ 2 ≤ 961 := ⟨Nat.le_trans (Nat.pow_le_pow_left h 3) (by decide), Nat.le_trans (Nat.pow_le_pow_left h 2) (by decide)⟩
theorem countI_eq {p : Int} {f : List Int} (h : numsB p f 20 = true) : countI p f = cnt p f (places p.toNat) := by
  obtain ⟨hp, hl, hr⟩ := numsB_prime h
  have hb := prime_bd hp
  obtain ⟨q, rfl⟩ := Int.eq_ofNat_of_zero_le (show 0 ≤ p by omega)
  have hq := pow3_le (p := q) (by omega)
  rw [countI, Int.toNat_natCast, runs_cnt _ _ (small_of h) _ _ ?_ (by omega) ?_, Int.zero_add]
  · intro a ha
    obtain ⟨n, c, hn, hc, rfl⟩ := places_mem ha
    exact small_of (placeRow_nums hp hn hc)
  · rw [places_length]; omega
/-- the reference's order of the places -/
def sP (p : Nat) (n : Nat) : List Int :=
  if n = 0 then placeRow p 3 0 else if n - 1 < p then placeRow p 2 ((n - 1 : Nat) : Int) else if n - 1 - p < p ^ 2 then placeRow p 1 ((n - 1 - p : Nat) : Int) else placeRow p 0 ((n - 1 - p - p ^ 2 : Nat) : Int)
theorem div_lt_p {p c : Nat} (hp : 0 < p) (h : c < p ^ 2) : c / p % p = c / p := Nat.mod_eq_of_lt (by rw [Nat.div_lt_iff_lt_mul hp]; rwa [Nat.pow_two] at h)
theorem wdiv (x q : Nat) (hx : x ≤ 1000000000) : wrap64 (Int.tdiv (x : Int) (q : Int)) = ((x / q : Nat) : Int) := by
  rw [← Int.ofNat_tdiv]
  have := Nat.div_le_self x q
  generalize x / q = y at this
  exact wsm (by omega) (by omega)
theorem wmod (x q : Nat) : Int.tmod (x : Int) (q : Int) = ((x % q : Nat) : Int) := (Int.ofNat_tmod x q).symm
theorem sPlace_eq (p n : Nat) (h7 : 7 ≤ p) (h31 : p ≤ 31) (hn : n < 1 + p + p ^ 2 + p ^ 3) : spec_l6sPlace.f (p : Int) (n : Int) = some (sP p n) := by
  have hq := pow3_le h31
  have e2 : (p : Int) * (p : Int) = ((p ^ 2 : Nat) : Int) := by rw [Nat.pow_two]; simp
  have hp2 : 49 ≤ p ^ 2 := by rw [Nat.pow_two]; exact Nat.mul_le_mul h7 h7
  unfold spec_l6sPlace.f sP
  rw [e2, wsm (i := ((p ^ 2 : Nat) : Int)) (by omega) (by omega)]
  by_cases h0 : n = 0
  · rw [if_pos (by omega), if_pos h0]; rfl
  rw [if_neg (by omega), if_neg h0, wsm (i := (n : Int) - 1) (by omega) (by omega)]
  by_cases h1 : n - 1 < p
  · rw [if_pos (by omega), if_pos h1]
    simp only [placeRow]
    rw [Int.emod_eq_of_lt (by omega) (by omega), show (((n - 1 : Nat)) : Int) = (n : Int) - 1 from by omega]
  rw [if_neg (by omega), if_neg h1, wsm (i := (n : Int) - 1 - p) (by omega) (by omega)]
  obtain ⟨m, hm⟩ : ∃ m : Nat, m = n - 1 - p := ⟨_, rfl⟩
  rw [show (n : Int) - 1 - p = (m : Int) from by omega, ← hm]
  by_cases h2 : m < p ^ 2
  · rw [if_pos (by omega), if_neg (by omega), if_pos h2, wdiv m p (by omega), wmod]
    simp only [placeRow]
    rw [← Int.natCast_ediv, ← Int.natCast_emod, ← Int.natCast_emod, div_lt_p (by omega) h2]
  · rw [if_neg (by omega), if_neg (by omega), if_neg (by omega), if_neg h2]
    obtain ⟨c, hc⟩ : ∃ c : Nat, c = m - p ^ 2 := ⟨_, rfl⟩
    rw [wsm (i := (m : Int) - ((p ^ 2 : Nat) : Int)) (by omega) (by omega), show (m : Int) - ((p ^ 2 : Nat) : Int) = (c : Int) from by omega, ← hc, wdiv c (p ^ 2) (by omega), wdiv c p (by omega), wmod, wmod]
    have hc3 : c < p ^ 3 := by omega
    have hd : c / p ^ 2 % p = c / p ^ 2 := Nat.mod_eq_of_lt (by rw [Nat.div_lt_iff_lt_mul (by omega)]; rwa [Nat.pow_succ, Nat.mul_comm] at hc3)
    simp only [placeRow]
    rw [← Int.natCast_ediv, ← Int.natCast_ediv, ← Int.natCast_emod, ← Int.natCast_emod, ← Int.natCast_emod, Nat.div_div_eq_div_mul, ← Nat.pow_two, hd]
theorem cnt_append (p : Int) (f : List Int) (L M : List (List Int)) : cnt p f (L ++ M) = cnt p f L + cnt p f M := by simp [cnt, List.countP_append]
theorem range_shift (a b : Nat) (g : Nat → List Int) : (List.range (a + b)).map g = (List.range a).map g ++ (List.range b).map fun i => g (a + i) := by
  rw [List.range_add, List.map_append, List.map_map]; rfl
theorem sP_list (p : Nat) (hp : 0 < p) : (List.range (1 + p + p ^ 2 + p ^ 3)).map (sP p) = rowFrom p 3 0 ++ (rowFrom p 2 0 ++ (rowFrom p 1 0 ++ rowFrom p 0 0)) := by
  obtain ⟨h0, h1, h2, h3⟩ := placeMany_3 p
  rw [range_shift, range_shift, range_shift]
  simp only [rowFrom_all, h0, h1, h2, h3, List.append_assoc]
  congr 1
  congr 1
  · refine List.map_congr_left fun i hi => ?_
    have := List.mem_range.1 hi
    rw [sP, if_neg (by omega), if_pos (by omega), show 1 + i - 1 = i from by omega]
  congr 1
  · refine List.map_congr_left fun i hi => ?_
    have := List.mem_range.1 hi
    rw [sP, if_neg (by omega), if_neg (by omega), if_pos (by omega), show 1 + p + i - 1 - p = i from by omega]
  · refine List.map_congr_left fun i hi => ?_
    have := List.mem_range.1 hi
    rw [sP, if_neg (by omega), if_neg (by omega), if_neg (by omega), show 1 + p + p ^ 2 + i - 1 - p - p ^ 2 = i from by omega]
theorem cnt_sP (p : Nat) (hp : 0 < p) (f : List Int) : cnt p f ((List.range (1 + p + p ^ 2 + p ^ 3)).map (sP p)) = cnt p f (places p) := by
  rw [sP_list p hp, places_eq]
  simp only [cnt_append, List.append_nil]
  omega
theorem sP_mem {p n : Nat} (hp : 0 < p) (hn : n < 1 + p + p ^ 2 + p ^ 3) : sP p n ∈ places p := by
  have : sP p n ∈ (List.range (1 + p + p ^ 2 + p ^ 3)).map (sP p) := List.mem_map_of_mem (List.mem_range.2 hn)
  rw [sP_list p hp] at this
  rw [places_eq]
  simp only [List.mem_append, List.append_nil] at *
  rcases this with h | h | h | h
  · exact .inr (.inr (.inr h))
  · exact .inr (.inr (.inl h))
  · exact .inr (.inl h)
  · exact .inl h
theorem FormCount_l (p : Nat) (f : List Int) (h : numsB p f 20 = true) : ∀ (d : Nat) (n c : Nat), n + d = 1 + p + p ^ 2 + p ^ 3 → c ≤ n → Ev (fun k => spec_FormCount.l0 k p f (c : Int) (n : Int)) (((c + cnt p f ((List.range' n d).map (sP p)) : Nat) : Int), true) := by
  obtain ⟨hp, hl, hr⟩ := numsB_prime h
  have hb := prime_bd hp
  have hq := pow3_le (p := p) (by omega)
  have e2 : (p : Int) * (p : Int) = ((p ^ 2 : Nat) : Int) := by rw [Nat.pow_two]; simp
  have e3 : ((p ^ 2 : Nat) : Int) * (p : Int) = ((p ^ 3 : Nat) : Int) := by rw [Nat.pow_succ p 2]; simp
  have eT : wrap64 (wrap64 (wrap64 (1 + (p : Int)) + wrap64 ((p : Int) * p)) + wrap64 (wrap64 ((p : Int) * p) * p)) = ((1 + p + p ^ 2 + p ^ 3 : Nat) : Int) := by
    rw [e2, wsm (i := ((p ^ 2 : Nat) : Int)) (by omega) (by omega), e3, wsm (i := 1 + (p : Int)) (by omega) (by omega), wsm (i := ((p ^ 3 : Nat) : Int)) (by omega) (by omega), wsm (i := 1 + (p : Int) + ((p ^ 2 : Nat) : Int)) (by omega) (by omega), wsm (by omega) (by omega)]
    omega
  intro d
  induction d with
  | zero =>
    intro n c hn hc
    refine Ev.step (f := fun _ => some ((c : Int), true)) (fun k => ?_) ?_
    · rw [spec_FormCount.l0, eT, if_neg (by omega)]
    · simpa [cnt] using Ev.now ((c : Int), true)
  | succ d ih =>
    intro n c hn hc
    have hs : n < 1 + p + p ^ 2 + p ^ 3 := by omega
    have hm := sP_mem (p := p) (by omega) hs
    obtain ⟨i, j, hi, hj, hij⟩ := places_mem hm
    have hnum : numsB p (sP p n) 4 = true := by rw [hij]; exact placeRow_nums hp hi hj
    have hv := sValue_ev p f (sP p n) hb hl (numsB_prime hnum).2.1 (small_of h) (small_of hnum)
    refine Ev.step (f := fun k => (spec_l6sValue.f k p f (sP p n)).bind fun t => if t = 0 then spec_FormCount.l0 k p f ((c + 1 : Nat) : Int) ((n + 1 : Nat) : Int) else spec_FormCount.l0 k p f (c : Int) ((n + 1 : Nat) : Int)) (fun k => ?_) (Ev.bind hv ?_)
    · rw [spec_FormCount.l0, eT, if_pos (by omega), sPlace_eq p n (by omega) (by omega) hs, wsm (i := (n : Int) + 1) (by omega) (by omega), wsm (i := (c : Int) + 1) (by omega) (by omega)]
      rfl
    · rw [List.range'_succ, List.map_cons]
      refine Ev.ite (fun hz => ?_) (fun hz => ?_)
      · have := ih (n + 1) (c + 1) (by omega) (by omega)
        rw [show c + cnt p f (sP p n :: (List.range' (n + 1) d).map (sP p)) = c + 1 + cnt p f ((List.range' (n + 1) d).map (sP p)) from by simp [cnt, List.countP_cons, hz]; omega]
        exact this
      · have := ih (n + 1) c (by omega) (by omega)
        rw [show c + cnt p f (sP p n :: (List.range' (n + 1) d).map (sP p)) = c + cnt p f ((List.range' (n + 1) d).map (sP p)) from by simp [cnt, List.countP_cons, hz]]
        exact this
/-- what both FormCounts return -/
def countP (p : Int) (f : List Int) : Int × Bool := if numsB p f 20 = true then ((cnt p f (places p.toNat) : Nat), true) else (0, false)
theorem sFormCount_ev (p : Int) (f : List Int) (hl : f.length ≤ 1000000000) : Ev (fun k => spec_FormCount.f k p f) (countP p f) := by
  unfold spec_FormCount.f countP
  refine Ev.bind (FormIn_ev p f hl) ?_
  cases h : numsB p f 20
  · exact Ev.now _
  · simp only [if_true]
    have hb := prime_bd (numsB_prime h).1
    obtain ⟨q, rfl⟩ := Int.eq_ofNat_of_zero_le (show 0 ≤ p by omega)
    have := FormCount_l q f h (1 + q + q ^ 2 + q ^ 3) 0 0 (by omega) (by omega)
    rw [← List.range_eq_range', cnt_sP q (by omega) f] at this
    simpa using this
theorem iFormCount_eq (p : Int) (f : List Int) : impl_FormCount.f p f = some (countP p f) := by
  unfold impl_FormCount.f countP
  rw [show (20 : Int) = ((20 : Nat) : Int) from rfl, areNumbers_eq]
  cases h : numsB p f 20
  · rfl
  · simp only [Option.bind_some, if_true]
    rw [countI_eq h]

end Go.Proofs.Ytdgopdbmbaiddaa.PA
