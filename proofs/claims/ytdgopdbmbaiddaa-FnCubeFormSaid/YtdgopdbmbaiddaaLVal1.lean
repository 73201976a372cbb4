/- Plain laws of what the printed functions compute. No conditions beside those that each states. -/
import Derived.Test.YtdgopdbmbaiddaaLBase
import Derived.Test.YtdgopdbmbaiddaaLVal
import Derived.Test.YtdgopdbmbaiddaaPAx1
import Derived.Test.YtdgopdbmbaiddaaPAx7
import Derived.Test.YtdgopdbmbaiddaaWMore
namespace Go.Proofs.Ytdgopdbmbaiddaa.PA
open Go.RowKit Go.Proofs.YtdgopdbmbaiddaaW.PrintWords Go.Proofs.YtdgopdbmbaiddaaW.PrintLast Go.Proofs.YtdgopdbmbaiddaaW.PrintMore
set_option linter.unusedVariables false
set_option linter.unusedSimpArgs false

/-- the reference's sums -/
def sstep (p s x u v y : Int) : Int := Int.tmod (wrap64 (s + (wrap64 ((Int.tmod (wrap64 ((Int.tmod (wrap64 (x * u)) p) * v)) p) * y)))) p
theorem sstep_eq (p s s0 x u v y : Int) (hp : 7 ≤ p ∧ p ≤ 31) (hs : s = s0 % p) (hx : 0 ≤ x ∧ x ≤ 30) (hu : 0 ≤ u ∧ u ≤ 30) (hv : 0 ≤ v ∧ v ≤ 30) (hy : 0 ≤ y ∧ y ≤ 30) : sstep p s x u v y = (s0 + x * (u * v) * y) % p := by
  have m1 := mul_le_of hx.1 hx.2 hu.1 hu.2
  have n1 := Int.emod_nonneg (x * u) (show p ≠ 0 by omega)
  have n2 := Int.emod_lt_of_pos (x * u) (show 0 < p by omega)
  have m2 := mul_le_of n1 (show (x * u) % p ≤ 30 by omega) hv.1 hv.2
  have n3 := Int.emod_nonneg ((x * u) % p * v) (show p ≠ 0 by omega)
  have n4 := Int.emod_lt_of_pos ((x * u) % p * v) (show 0 < p by omega)
  have m3 := mul_le_of n3 (show (x * u) % p * v % p ≤ 30 by omega) hy.1 hy.2
  have n5 := Int.emod_nonneg s0 (show p ≠ 0 by omega)
  have n6 := Int.emod_lt_of_pos s0 (show 0 < p by omega)
  unfold sstep
  rw [wsm (i := x * u) (by omega) (by omega), Int.tmod_eq_emod_of_nonneg m1.1, wsm (i := (x * u) % p * v) (by omega) (by omega), Int.tmod_eq_emod_of_nonneg m2.1, wsm (i := (x * u) % p * v % p * y) (by omega) (by omega), hs, wsm (by omega) (by omega), Int.tmod_eq_emod_of_nonneg (by omega)]
  rw [Int.add_emod, Int.emod_emod, Int.mul_emod ((x * u) % p * v % p) y p, Int.emod_emod, Int.mul_emod ((x * u) % p) v p, Int.emod_emod, ← Int.mul_emod (x * u) v p, ← Int.mul_emod (x * u * v) y p, ← Int.add_emod, Int.mul_assoc x u v]
def sv2 (p : Int) (f a : List Int) (i j : Int) : Nat → Int → Int → Int → Int
  | 0, s, _, _ => s
  | d + 1, s, n, l => sv2 p f a i j d (sstep p s (rd f n) (rd a i) (rd a j) (rd a l)) (n + 1) (l + 1)
def sv1 (p : Int) (f a : List Int) (i : Int) : Nat → Int → Int → Int → Int
  | 0, s, _, _ => s
  | d + 1, s, n, j => sv1 p f a i d (sv2 p f a i j (d + 1) s n j) (n + (d + 1 : Nat)) (j + 1)
def sv0 (p : Int) (f a : List Int) : Nat → Int → Int → Int → Int
  | 0, s, _, _ => s
  | d + 1, s, n, i => sv0 p f a d (sv1 p f a i (d + 1) s n i) (n + tri (d + 1)) (i + 1)
theorem sv2_eq (p : Int) (f a : List Int) (hp : 7 ≤ p ∧ p ≤ 31) (hf : small f) (ha : small a) (i j : Int) : ∀ (d : Nat) (s s0 n l : Int), s = s0 % p → sv2 p f a i j d s n l = xs2 f a (rd a i * rd a j) d s0 n l % p
  | 0, s, s0, n, l, h => by rw [sv2, xs2, h]
  | d + 1, s, s0, n, l, h => by
    rw [sv2, xs2]
    exact sv2_eq p f a hp hf ha i j d _ _ _ _ (sstep_eq p s s0 _ _ _ _ hp h (hf n) (ha i) (ha j) (ha l))
theorem sv1_eq (p : Int) (f a : List Int) (hp : 7 ≤ p ∧ p ≤ 31) (hf : small f) (ha : small a) (i : Int) : ∀ (d : Nat) (s s0 n j : Int), s = s0 % p → sv1 p f a i d s n j = xs1 f a i d s0 n j % p
  | 0, s, s0, n, j, h => by rw [sv1, xs1, h]
  | d + 1, s, s0, n, j, h => by
    rw [sv1, xs1]
    exact sv1_eq p f a hp hf ha i d _ _ _ _ (sv2_eq p f a hp hf ha i j (d + 1) s s0 n j h)
theorem sv0_eq (p : Int) (f a : List Int) (hp : 7 ≤ p ∧ p ≤ 31) (hf : small f) (ha : small a) : ∀ (d : Nat) (s s0 n i : Int), s = s0 % p → sv0 p f a d s n i = xs0 f a d s0 n i % p
  | 0, s, s0, n, i, h => by rw [sv0, xs0, h]
  | d + 1, s, s0, n, i, h => by
    rw [sv0, xs0]
    exact sv0_eq p f a hp hf ha d _ _ _ _ (sv1_eq p f a hp hf ha i (d + 1) s s0 n i h)
theorem sValue_l2 (p : Int) (f a : List Int) (i j : Int) (hp : p ≠ 0) (hf : f.length = 20) (ha : a.length = 4) (hi : 0 ≤ i ∧ i < 4) (hj : 0 ≤ j ∧ j < 4) (r : Int) : ∀ (d : Nat) (s n l : Int), 0 ≤ n → n + d ≤ 20 → 0 ≤ l → l + d = 4 →
    Ev (fun k => spec_l6sValue.l1 k p f a (sv2 p f a i j d s n l) (n + d) i (wrap64 (j + 1))) r → Ev (fun k => spec_l6sValue.l2 k p f a s n i j l) r
  | 0, s, n, l, h1, h2, h3, h4, h => by
    refine Ev.step (f := fun k => spec_l6sValue.l1 k p f a s n i (wrap64 (j + 1))) (fun k => ?_) (by simpa [sv2] using h)
    rw [spec_l6sValue.l2, if_neg (by omega)]
  | d + 1, s, n, l, h1, h2, h3, h4, h => by
    refine Ev.step (f := fun k => spec_l6sValue.l2 k p f a (sstep p s (rd f n) (rd a i) (rd a j) (rd a l)) (n + 1) i j (l + 1)) (fun k => ?_) ?_
    · rw [spec_l6sValue.l2, if_pos (by omega), if_pos h1, if_pos (by omega), if_pos hi.1, if_pos (by omega), if_neg hp, if_pos hj.1, if_pos (by omega), if_pos h3, if_pos (by omega), wsm (i := n + 1) (by omega) (by omega), wsm (i := l + 1) (by omega) (by omega)]
      rfl
    · refine sValue_l2 p f a i j hp hf ha hi hj r d _ _ _ (by omega) (by omega) (by omega) (by omega) ?_
      rw [show n + 1 + (d : Int) = n + ((d + 1 : Nat) : Int) from by omega]
      exact h
theorem sValue_l1 (p : Int) (f a : List Int) (i : Int) (hp : p ≠ 0) (hf : f.length = 20) (ha : a.length = 4) (hi : 0 ≤ i ∧ i < 4) (r : Int) : ∀ (d : Nat) (s n j : Int), 0 ≤ n → n + tri d ≤ 20 → 0 ≤ j → j + d = 4 →
    Ev (fun k => spec_l6sValue.l0 k p f a (sv1 p f a i d s n j) (n + tri d) (wrap64 (i + 1))) r → Ev (fun k => spec_l6sValue.l1 k p f a s n i j) r
  | 0, s, n, j, h1, h2, h3, h4, h => by
    refine Ev.step (f := fun k => spec_l6sValue.l0 k p f a s n (wrap64 (i + 1))) (fun k => ?_) (by simpa [sv1, tri] using h)
    rw [spec_l6sValue.l1, if_neg (by omega)]
  | d + 1, s, n, j, h1, h2, h3, h4, h => by
    rw [tri] at h2
    refine Ev.step (f := fun k => spec_l6sValue.l2 k p f a s n i j j) (fun k => ?_) ?_
    · rw [spec_l6sValue.l1, if_pos (by omega)]
    · refine sValue_l2 p f a i j hp hf ha hi (by omega) r (d + 1) _ _ _ (by omega) (by omega) (by omega) (by omega) ?_
      rw [wsm (i := j + 1) (by omega) (by omega)]
      refine sValue_l1 p f a i hp hf ha hi r d _ _ _ (by omega) (by omega) (by omega) (by omega) ?_
      rw [show n + ((d + 1 : Nat) : Int) + (tri d : Int) = n + (tri (d + 1) : Int) from by rw [tri]; omega]
      exact h
theorem sValue_l0 (p : Int) (f a : List Int) (hp : p ≠ 0) (hf : f.length = 20) (ha : a.length = 4) (r : Int) (d : Nat) (s n i : Int) (h1 : 0 ≤ n) (h2 : n + tri (d + 1) ≤ 20) (h3 : 0 ≤ i) (h4 : i + (d + 1 : Nat) = 4)
    (h : Ev (fun k => spec_l6sValue.l0 k p f a (sv1 p f a i (d + 1) s n i) (n + tri (d + 1)) (i + 1)) r) : Ev (fun k => spec_l6sValue.l0 k p f a s n i) r := by
  refine Ev.step (f := fun k => spec_l6sValue.l1 k p f a s n i i) (fun k => ?_) ?_
  · rw [spec_l6sValue.l0, if_pos (by omega)]
  · refine sValue_l1 p f a i hp hf ha (by omega) r (d + 1) _ _ _ h1 h2 h3 h4 ?_
    rw [wsm (i := i + 1) (by omega) (by omega)]
    exact h
theorem sValue_ev' (p : Int) (f a : List Int) (hp : p ≠ 0) (hf : f.length = 20) (ha : a.length = 4) : Ev (fun k => spec_l6sValue.f k p f a) (sv0 p f a 4 0 0 0) := by
  unfold spec_l6sValue.f
  refine sValue_l0 p f a hp hf ha _ 3 _ _ _ (by omega) (by simp [tri]) (by omega) (by omega) ?_
  refine sValue_l0 p f a hp hf ha _ 2 _ _ _ (by simp [tri]) (by simp [tri]) (by omega) (by omega) ?_
  refine sValue_l0 p f a hp hf ha _ 1 _ _ _ (by simp [tri]) (by simp [tri]) (by omega) (by omega) ?_
  refine sValue_l0 p f a hp hf ha _ 0 _ _ _ (by simp [tri]) (by simp [tri]) (by omega) (by omega) ?_
  refine Ev.step (f := fun _ => some (sv0 p f a 4 0 0 0)) (fun k => ?_) (Ev.now _)
  rw [spec_l6sValue.l0, if_neg (by omega)]
  rfl
theorem sValue_ev (p : Int) (f a : List Int) (hp : 7 ≤ p ∧ p ≤ 31) (hf : f.length = 20) (ha : a.length = 4) (sf : small f) (sa : small a) : Ev (fun k => spec_l6sValue.f k p f a) (xval f a % p) := by
  have h := sValue_ev' p f a (by omega) hf ha
  rwa [sv0_eq p f a hp sf sa 4 0 0 0 0 (by simp)] at h

end Go.Proofs.Ytdgopdbmbaiddaa.PA
