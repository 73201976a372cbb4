/- Plain laws of what the printed functions compute. No conditions beside those that each states. -/
import Derived.Test.YtdgopdbmbaiddaaLBase
import Derived.Test.YtdgopdbmbaiddaaLPrim
import Derived.Test.YtdgopdbmbaiddaaPAx1
import Derived.Test.YtdgopdbmbaiddaaPAx7
import Derived.Test.YtdgopdbmbaiddaaWMore
namespace Go.Proofs.Ytdgopdbmbaiddaa.PA
open Go.RowKit Go.Proofs.YtdgopdbmbaiddaaW.PrintWords Go.Proofs.YtdgopdbmbaiddaaW.PrintLast Go.Proofs.YtdgopdbmbaiddaaW.PrintMore
set_option linter.unusedVariables false
set_option linter.unusedSimpArgs false

/-- the same sums, exactly -/
def xs2 (f a : List Int) (two : Int) : Nat → Int → Int → Int → Int
  | 0, s, _, _ => s
  | d + 1, s, n, l => xs2 f a two d (s + rd f n * two * rd a l) (n + 1) (l + 1)
def xs1 (f a : List Int) (i : Int) : Nat → Int → Int → Int → Int
  | 0, s, _, _ => s
  | d + 1, s, n, j => xs1 f a i d (xs2 f a (rd a i * rd a j) (d + 1) s n j) (n + (d + 1 : Nat)) (j + 1)
def xs0 (f a : List Int) : Nat → Int → Int → Int → Int
  | 0, s, _, _ => s
  | d + 1, s, n, i => xs0 f a d (xs1 f a i (d + 1) s n i) (n + tri (d + 1)) (i + 1)
/-- the value before it is taken modulo p -/
def xval (f a : List Int) : Int := xs0 f a 4 0 0 0
/-- small numbers, as those of a form and of a place are -/
def small (l : List Int) : Prop := ∀ i, 0 ≤ rd l i ∧ rd l i ≤ 30
theorem small_of {p : Int} {l : List Int} {n : Nat} (h : numsB p l n = true) : small l := by
  intro i
  obtain ⟨hp, hl, hr⟩ := numsB_prime h
  have hb := prime_bd hp
  unfold rd
  rw [List.getD_eq_getElem?_getD]
  cases hi : l[i.toNat]? with
  | none => simp
  | some x => have := hr x (List.mem_of_getElem? hi); simp; omega
theorem mul_le_of {x y a b : Int} (h0 : 0 ≤ x) (h1 : x ≤ a) (h2 : 0 ≤ y) (h3 : y ≤ b) : 0 ≤ x * y ∧ x * y ≤ a * b :=
  ⟨Int.mul_nonneg h0 h2, Int.le_trans (Int.mul_le_mul_of_nonneg_right h1 h2) (Int.mul_le_mul_of_nonneg_left h3 (Int.le_trans h0 h1))⟩
theorem vs2_eq (f a : List Int) (hf : small f) (ha : small a) (two : Int) (ht : 0 ≤ two ∧ two ≤ 900) (d : Nat) : ∀ (s n l : Int), 0 ≤ s → s + d * 1000000 ≤ 100000000 →
    vs2 f a two d s n l = xs2 f a two d s n l ∧ 0 ≤ xs2 f a two d s n l ∧ xs2 f a two d s n l ≤ s + d * 1000000 := by
  induction d with
  | zero => intro s n l h0 h1; exact ⟨rfl, h0, by rw [xs2]; omega⟩
  | succ d ih =>
    intro s n l h0 h1
    have m1 := mul_le_of (hf n).1 (hf n).2 ht.1 ht.2
    have m2 := mul_le_of m1.1 m1.2 (ha l).1 (ha l).2
    rw [vs2, xs2, wsm (i := rd f n * two) (by omega) (by omega), wsm (i := rd f n * two * rd a l) (by omega) (by omega), wsm (by omega) (by omega)]
    have ih := ih (s + rd f n * two * rd a l) (n + 1) (l + 1) (by omega) (by omega)
    refine ⟨ih.1, ih.2.1, ?_⟩
    have := ih.2.2
    omega
theorem vs1_eq (f a : List Int) (hf : small f) (ha : small a) (i : Int) (d : Nat) : ∀ (s n j : Int), 0 ≤ s → s + (tri d) * 1000000 ≤ 100000000 →
    (vs1 f a i d s n j).1 = xs1 f a i d s n j ∧ 0 ≤ xs1 f a i d s n j ∧ xs1 f a i d s n j ≤ s + (tri d) * 1000000 := by
  induction d with
  | zero => intro s n j h0 h1; exact ⟨rfl, h0, by rw [xs1]; omega⟩
  | succ d ih =>
    intro s n j h0 h1
    have m1 := mul_le_of (ha i).1 (ha i).2 (ha j).1 (ha j).2
    rw [tri] at h1
    rw [vs1, xs1, wsm (i := rd a i * rd a j) (by omega) (by omega)]
    have h2 := vs2_eq f a hf ha (rd a i * rd a j) (by omega) (d + 1) s n j h0 (by omega)
    rw [h2.1]
    have ih := ih (xs2 f a (rd a i * rd a j) (d + 1) s n j) (n + (d + 1 : Nat)) (j + 1) h2.2.1 (by omega)
    refine ⟨ih.1, ih.2.1, ?_⟩
    have h3 := ih.2.2
    have h4 := h2.2.2
    rw [tri]
    omega
theorem vs0_eq (f a : List Int) (hf : small f) (ha : small a) : vs0 f a 4 0 0 0 = xval f a ∧ 0 ≤ xval f a ∧ xval f a ≤ 100000000 := by
  have h4 := vs1_eq f a hf ha 0 4 0 0 0 (by omega) (by simp [tri])
  have h3 := vs1_eq f a hf ha 1 3 _ (0 + tri 4) 1 h4.2.1 (by have := h4.2.2; simp [tri] at this ⊢; omega)
  have h2 := vs1_eq f a hf ha 2 2 _ (0 + tri 4 + tri 3) 2 h3.2.1 (by have := h4.2.2; have := h3.2.2; simp [tri] at *; omega)
  have h1 := vs1_eq f a hf ha 3 1 _ (0 + tri 4 + tri 3 + tri 2) 3 h2.2.1 (by have := h4.2.2; have := h3.2.2; have := h2.2.2; simp [tri] at *; omega)
  unfold xval
  simp only [vs0, xs0, vs1_n]
  simp only [Int.zero_add, show (1 : Int) + 1 = 2 from rfl, show (2 : Int) + 1 = 3 from rfl] at *
  rw [h4.1, h3.1, h2.1, h1.1]
  refine ⟨rfl, h1.2.1, ?_⟩
  have a1 := h1.2.2
  have a2 := h2.2.2
  have a3 := h3.2.2
  have a4 := h4.2.2
  simp [tri] at *
  omega
theorem valI_eq {p : Int} {f a : List Int} (hf : small f) (ha : small a) : valI p f a = xval f a % p := by
  unfold valI
  rw [(vs0_eq f a hf ha).1, Int.tmod_eq_emod_of_nonneg (vs0_eq f a hf ha).2.1]
theorem iValue_ev (p : Int) (f a : List Int) (hp : 7 ≤ p ∧ p ≤ 31) (hf : f.length = 20) (ha : a.length = 4) (sf : small f) (sa : small a) : Ev (fun k => impl_valueAt.f k p f a) (xval f a % p) := by
  have h := valueAt_ev p f a (by omega) hf ha
  rwa [valI_eq sf sa] at h
/-- the reference's sums -/
def sstep (p s x u v y : Int) : Int := Int.tmod (wrap64 (s + (wrap64 ((Int.tmod (wrap64 ((Int.tmod (wrap64 (x * u)) p) * v)) p) * y)))) p
theorem sstep_eq (p s s0 x u v y : Int) (hp : 7 ≤ p ∧ p ≤ 31) (hs : s = s0 % p) (hx : 0 ≤ x ∧ x ≤ 30) (hu : 0 ≤ u ∧ u ≤ 30) (hv : 0 ≤ v ∧ v ≤ 30) (hy : 0 ≤ y ∧ y ≤ 30) : sstep p s x u v y = (s0 + x * (u * v) * y) % p := by
  have m1 := mul_le_of hx.1 hx.2 hu.1 hu.2
  have n1 := Int.emod_nonneg (x * u) (show p ≠ 0 by omega)
  have n2 := Int.emod_lt_of_pos (x * u) (show 0 < p by omega)
  have m2 := mul_le_of n1 (show (x * u) % p ≤ 30 by omega) hv.1 hv.2
  have n3 := Int.emod_nonneg ((x * u) % p * v) (show p ≠ 0 by omega)
  have n4 := Int.emod_lt_of_pos ((x * u) % p * v) (show 0 < p by omega)
  have m3 := mul_le_of n3 (show (x * u) % p * v % p ≤ 30 by omega) hy.1 hy.2
  have n5 := Int.emod_nonneg s0 (show p ≠ 0 by omega)
  have n6 := Int.emod_lt_of_pos s0 (show 0 < p by omega)
  unfold sstep
  rw [wsm (i := x * u) (by omega) (by omega), Int.tmod_eq_emod_of_nonneg m1.1, wsm (i := (x * u) % p * v) (by omega) (by omega), Int.tmod_eq_emod_of_nonneg m2.1, wsm (i := (x * u) % p * v % p * y) (by omega) (by omega), hs, wsm (by omega) (by omega), Int.tmod_eq_emod_of_nonneg (by omega)]
  rw [Int.add_emod, Int.emod_emod, Int.mul_emod ((x * u) % p * v % p) y p, Int.emod_emod, Int.mul_emod ((x * u) % p) v p, Int.emod_emod, ← Int.mul_emod (x * u) v p, ← Int.mul_emod (x * u * v) y p, ← Int.add_emod, Int.mul_assoc x u v]
def sv2 (p : Int) (f a : List Int) (i j : Int) : Nat → Int → Int → Int → Int
  | 0, s, _, _ => s
  | d + 1, s, n, l => sv2 p f a i j d (sstep p s (rd f n) (rd a i) (rd a j) (rd a l)) (n + 1) (l + 1)
def sv1 (p : Int) (f a : List Int) (i : Int) : Nat → Int → Int → Int → Int
  | 0, s, _, _ => s
  | d + 1, s, n, j => sv1 p f a i d (sv2 p f a i j (d + 1) s n j) (n + (d + 1 : Nat)) (j + 1)
def sv0 (p : Int) (f a : List Int) : Nat → Int → Int → Int → Int
  | 0, s, _, _ => s
  | d + 1, s, n, i => sv0 p f a d (sv1 p f a i (d + 1) s n i) (n + tri (d + 1)) (i + 1)
theorem sv2_eq (p : Int) (f a : List Int) (hp : 7 ≤ p ∧ p ≤ 31) (hf : small f) (ha : small a) (i j : Int) : ∀ (d : Nat) (s s0 n l : Int), s = s0 % p → sv2 p f a i j d s n l = xs2 f a (rd a i * rd a j) d s0 n l % p
  | 0, s, s0, n, l, h => by rw [sv2, xs2, h]
  | d + 1, s, s0, n, l, h => by
    rw [sv2, xs2]
    exact sv2_eq p f a hp hf ha i j d _ _ _ _ (sstep_eq p s s0 _ _ _ _ hp h (hf n) (ha i) (ha j) (ha l))
theorem sv1_eq (p : Int) (f a : List Int) (hp : 7 ≤ p ∧ p ≤ 31) (hf : small f) (ha : small a) (i : Int) : ∀ (d : Nat) (s s0 n j : Int), s = s0 % p → sv1 p f a i d s n j = xs1 f a i d s0 n j % p
  | 0, s, s0, n, j, h => by rw [sv1, xs1, h]
  | d + 1, s, s0, n, j, h => by
    rw [sv1, xs1]
    exact sv1_eq p f a hp hf ha i d _ _ _ _ (sv2_eq p f a hp hf ha i j (d + 1) s s0 n j h)
theorem sv0_eq (p : Int) (f a : List Int) (hp : 7 ≤ p ∧ p ≤ 31) (hf : small f) (ha : small a) : ∀ (d : Nat) (s s0 n i : Int), s = s0 % p → sv0 p f a d s n i = xs0 f a d s0 n i % p
  | 0, s, s0, n, i, h => by rw [sv0, xs0, h]
  | d + 1, s, s0, n, i, h => by
    rw [sv0, xs0]
    exact sv0_eq p f a hp hf ha d _ _ _ _ (sv1_eq p f a hp hf ha i (d + 1) s s0 n i h)
theorem sValue_l2 (p : Int) (f a : List Int) (i j : Int) (hp : p ≠ 0) (hf : f.length = 20) (ha : a.length = 4) (hi : 0 ≤ i ∧ i < 4) (hj : 0 ≤ j ∧ j < 4) (r : Int) : ∀ (d : Nat) (s n l : Int), 0 ≤ n → n + d ≤ 20 → 0 ≤ l → l + d = 4 →
    Ev (fun k => spec_l6sValue.l1 k p f a (sv2 p f a i j d s n l) (n + d) i (wrap64 (j + 1))) r → Ev (fun k => spec_l6sValue.l2 k p f a s n i j l) r
  | 0, s, n, l, h1, h2, h3, h4, h => by
    refine Ev.step (f := fun k => spec_l6sValue.l1 k p f a s n i (wrap64 (j + 1))) (fun k => ?_) (by simpa [sv2] using h)
    rw [spec_l6sValue.l2, if_neg (by omega)]
  | d + 1, s, n, l, h1, h2, h3, h4, h => by
    refine Ev.step (f := fun k => spec_l6sValue.l2 k p f a (sstep p s (rd f n) (rd a i) (rd a j) (rd a l)) (n + 1) i j (l + 1)) (fun k => ?_) ?_
    · rw [spec_l6sValue.l2, if_pos (by omega), if_pos h1, if_pos (by omega), if_pos hi.1, if_pos (by omega), if_neg hp, if_pos hj.1, if_pos (by omega), if_pos h3, if_pos (by omega), wsm (i := n + 1) (by omega) (by omega), wsm (i := l + 1) (by omega) (by omega)]
      rfl
    · refine sValue_l2 p f a i j hp hf ha hi hj r d _ _ _ (by omega) (by omega) (by omega) (by omega) ?_
      rw [show n + 1 + (d : Int) = n + ((d + 1 : Nat) : Int) from by omega]
      exact h
theorem sValue_l1 (p : Int) (f a : List Int) (i : Int) (hp : p ≠ 0) (hf : f.length = 20) (ha : a.length = 4) (hi : 0 ≤ i ∧ i < 4) (r : Int) : ∀ (d : Nat) (s n j : Int), 0 ≤ n → n + tri d ≤ 20 → 0 ≤ j → j + d = 4 →
    Ev (fun k => spec_l6sValue.l0 k p f a (sv1 p f a i d s n j) (n + tri d) (wrap64 (i + 1))) r → Ev (fun k => spec_l6sValue.l1 k p f a s n i j) r
  | 0, s, n, j, h1, h2, h3, h4, h => by
    refine Ev.step (f := fun k => spec_l6sValue.l0 k p f a s n (wrap64 (i + 1))) (fun k => ?_) (by simpa [sv1, tri] using h)
    rw [spec_l6sValue.l1, if_neg (by omega)]
  | d + 1, s, n, j, h1, h2, h3, h4, h => by
    rw [tri] at h2
    refine Ev.step (f := fun k => spec_l6sValue.l2 k p f a s n i j j) (fun k => ?_) ?_
    · rw [spec_l6sValue.l1, if_pos (by omega)]
    · refine sValue_l2 p f a i j hp hf ha hi (by omega) r (d + 1) _ _ _ (by omega) (by omega) (by omega) (by omega) ?_
      rw [wsm (i := j + 1) (by omega) (by omega)]
      refine sValue_l1 p f a i hp hf ha hi r d _ _ _ (by omega) (by omega) (by omega) (by omega) ?_
      rw [show n + ((d + 1 : Nat) : Int) + (tri d : Int) = n + (tri (d + 1) : Int) from by rw [tri]; omega]
      exact h
theorem sValue_l0 (p : Int) (f a : List Int) (hp : p ≠ 0) (hf : f.length = 20) (ha : a.length = 4) (r : Int) (d : Nat) (s n i : Int) (h1 : 0 ≤ n) (h2 : n + tri (d + 1) ≤ 20) (h3 : 0 ≤ i) (h4 : i + (d + 1 : Nat) = 4)
    (h : Ev (fun k => spec_l6sValue.l0 k p f a (sv1 p f a i (d + 1) s n i) (n + tri (d + 1)) (i + 1)) r) : Ev (fun k => spec_l6sValue.l0 k p f a s n i) r := by
  refine Ev.step (f := fun k => spec_l6sValue.l1 k p f a s n i i) (fun k => ?_) ?_
  · rw [spec_l6sValue.l0, if_pos (by omega)]
  · refine sValue_l1 p f a i hp hf ha (by omega) r (d + 1) _ _ _ h1 h2 h3 h4 ?_
    rw [wsm (i := i + 1) (by omega) (by omega)]
    exact h
theorem sValue_ev' (p : Int) (f a : List Int) (hp : p ≠ 0) (hf : f.length = 20) (ha : a.length = 4) : Ev (fun k => spec_l6sValue.f k p f a) (sv0 p f a 4 0 0 0) := by
  unfold spec_l6sValue.f
  refine sValue_l0 p f a hp hf ha _ 3 _ _ _ (by omega) (by simp [tri]) (by omega) (by omega) ?_
  refine sValue_l0 p f a hp hf ha _ 2 _ _ _ (by simp [tri]) (by simp [tri]) (by omega) (by omega) ?_
  refine sValue_l0 p f a hp hf ha _ 1 _ _ _ (by simp [tri]) (by simp [tri]) (by omega) (by omega) ?_
  refine sValue_l0 p f a hp hf ha _ 0 _ _ _ (by simp [tri]) (by simp [tri]) (by omega) (by omega) ?_
  refine Ev.step (f := fun _ => some (sv0 p f a 4 0 0 0)) (fun k => ?_) (Ev.now _)
  rw [spec_l6sValue.l0, if_neg (by omega)]
  rfl
theorem sValue_ev (p : Int) (f a : List Int) (hp : 7 ≤ p ∧ p ≤ 31) (hf : f.length = 20) (ha : a.length = 4) (sf : small f) (sa : small a) : Ev (fun k => spec_l6sValue.f k p f a) (xval f a % p) := by
  have h := sValue_ev' p f a (by omega) hf ha
  rwa [sv0_eq p f a hp sf sa 4 0 0 0 0 (by simp)] at h

end Go.Proofs.Ytdgopdbmbaiddaa.PA
