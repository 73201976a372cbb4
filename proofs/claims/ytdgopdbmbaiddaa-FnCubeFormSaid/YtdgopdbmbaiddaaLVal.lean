/- Plain laws of what the printed functions compute. No conditions beside those that each states. -/
import Derived.Test.YtdgopdbmbaiddaaLBase
import Derived.Test.YtdgopdbmbaiddaaLPrim
import Derived.Test.YtdgopdbmbaiddaaPAx7
import Derived.Test.YtdgopdbmbaiddaaWMore
namespace Go.Proofs.Ytdgopdbmbaiddaa.PA
open Go.RowKit Go.Proofs.YtdgopdbmbaiddaaW.PrintWords Go.Proofs.YtdgopdbmbaiddaaW.PrintLast Go.Proofs.YtdgopdbmbaiddaaW.PrintMore
set_option linter.unusedVariables false
set_option linter.unusedSimpArgs false

/-- the same sums, exactly -/
def xs2 (f a : List Int) (two : Int) : Nat → Int → Int → Int → Int
  | 0, s, _, _ => s
  | d + 1, s, n, l => xs2 f a two d (s + rd f n * two * rd a l) (n + 1) (l + 1)
def xs1 (f a : List Int) (i : Int) : Nat → Int → Int → Int → Int
  | 0, s, _, _ => s
  | d + 1, s, n, j => xs1 f a i d (xs2 f a (rd a i * rd a j) (d + 1) s n j) (n + (d + 1 : Nat)) (j + 1)
def xs0 (f a : List Int) : Nat → Int → Int → Int → Int
  | 0, s, _, _ => s
  | d + 1, s, n, i => xs0 f a d (xs1 f a i (d + 1) s n i) (n + tri (d + 1)) (i + 1)
/-- the value before it is taken modulo p -/
def xval (f a : List Int) : Int := xs0 f a 4 0 0 0
/-- small numbers, as those of a form and of a place are -/
def small (l : List Int) : Prop := ∀ i, 0 ≤ rd l i ∧ rd l i ≤ 30
theorem small_of {p : Int} {l : List Int} {n : Nat} (h : numsB p l n = true) : small l := by
  intro i
  obtain ⟨hp, hl, hr⟩ := numsB_prime h
  have hb := prime_bd hp
  unfold rd
  rw [List.getD_eq_getElem?_getD]
  cases hi : l[i.toNat]? with
  | none => simp
  | some x => have := hr x (List.mem_of_getElem? hi); simp; omega
theorem mul_le_of {x y a b : Int} (h0 : 0 ≤ x) (h1 : x ≤ a) (h2 : 0 ≤ y) (h3 : y ≤ b) : 0 ≤ x * y ∧ x * y ≤ a * b :=
  ⟨Int.mul_nonneg h0 h2, Int.le_trans (Int.mul_le_mul_of_nonneg_right h1 h2) (Int.mul_le_mul_of_nonneg_left h3 (Int.le_trans h0 h1))⟩
theorem vs2_eq (f a : List Int) (hf : small f) (ha : small a) (two : Int) (ht : 0 ≤ two ∧ two ≤ 900) (d : Nat) : ∀ (s n l : Int), 0 ≤ s → s + d * 1000000 ≤ 100000000 →
    vs2 f a two d s n l = xs2 f a two d s n l ∧ 0 ≤ xs2 f a two d s n l ∧ xs2 f a two d s n l ≤ s + d * 1000000 := by
  induction d with
  | zero => intro s n l h0 h1; exact ⟨rfl, h0, by rw [xs2]; omega⟩
  | succ d ih =>
    intro s n l h0 h1
    have m1 := mul_le_of (hf n).1 (hf n).2 ht.1 ht.2
    have m2 := mul_le_of m1.1 m1.2 (ha l).1 (ha l).2
    rw [vs2, xs2, wsm (i := rd f n * two) (by omega) (by omega), wsm (i := rd f n * two * rd a l) (by omega) (by omega), wsm (by omega) (by omega)]
    have ih := ih (s + rd f n * two * rd a l) (n + 1) (l + 1) (by omega) (by omega)
    refine ⟨ih.1, ih.2.1, ?_⟩
    have := ih.2.2
    omega
theorem vs1_eq (f a : List Int) (hf : small f) (ha : small a) (i : Int) (d : Nat) : ∀ (s n j : Int), 0 ≤ s → s + (tri d) * 1000000 ≤ 100000000 →
    (vs1 f a i d s n j).1 = xs1 f a i d s n j ∧ 0 ≤ xs1 f a i d s n j ∧ xs1 f a i d s n j ≤ s + (tri d) * 1000000 := by
  induction d with
  | zero => intro s n j h0 h1; exact ⟨rfl, h0, by rw [xs1]; omega⟩
  | succ d ih =>
    intro s n j h0 h1
    have m1 := mul_le_of (ha i).1 (ha i).2 (ha j).1 (ha j).2
    rw [tri] at h1
    rw [vs1, xs1, wsm (i := rd a i * rd a j) (by omega) (by omega)]
    have h2 := vs2_eq f a hf ha (rd a i * rd a j) (by omega) (d + 1) s n j h0 (by omega)
    rw [h2.1]
    have ih := ih (xs2 f a (rd a i * rd a j) (d + 1) s n j) (n + (d + 1 : Nat)) (j + 1) h2.2.1 (by omega)
    refine ⟨ih.1, ih.2.1, ?_⟩
    have h3 := ih.2.2
    have h4 := h2.2.2
    rw [tri]
    omega
theorem vs0_eq (f a : List Int) (hf : small f) (ha : small a) : vs0 f a 4 0 0 0 = xval f a ∧ 0 ≤ xval f a ∧ xval f a ≤ 100000000 := by
  have h4 := vs1_eq f a hf ha 0 4 0 0 0 (by omega) (by simp [tri])
  have h3 := vs1_eq f a hf ha 1 3 _ (0 + tri 4) 1 h4.2.1 (by have := h4.2.2; simp [tri] at this ⊢; omega)
  have h2 := vs1_eq f a hf ha 2 2 _ (0 + tri 4 + tri 3) 2 h3.2.1 (by have := h4.2.2; have := h3.2.2; simp [tri] at *; omega)
  have h1 := vs1_eq f a hf ha 3 1 _ (0 + tri 4 + tri 3 + tri 2) 3 h2.2.1 (by have := h4.2.2; have := h3.2.2; have := h2.2.2; simp [tri] at *; omega)
  unfold xval
  simp only [vs0, xs0, vs1_n]
  simp only [Int.zero_add, show (1 : Int) + 1 = 2 from rfl, show (2 : Int) + 1 = 3 from rfl] at *
  rw [h4.1, h3.1, h2.1, h1.1]
  refine ⟨rfl, h1.2.1, ?_⟩
  have a1 := h1.2.2
  have a2 := h2.2.2
  have a3 := h3.2.2
  have a4 := h4.2.2
  simp [tri] at *
  omega
theorem valI_eq {p : Int} {f a : List Int} (hf : small f) (ha : small a) : valI p f a = xval f a % p := by
  unfold valI
  rw [(vs0_eq f a hf ha).1, Int.tmod_eq_emod_of_nonneg (vs0_eq f a hf ha).2.1]
theorem iValue_ev (p : Int) (f a : List Int) (hp : 7 ≤ p ∧ p ≤ 31) (hf : f.length = 20) (ha : a.length = 4) (sf : small f) (sa : small a) : Ev (fun k => impl_valueAt.f k p f a) (xval f a % p) := by
  have h := valueAt_ev p f a (by omega) hf ha
  rwa [valI_eq sf sa] at h

end Go.Proofs.Ytdgopdbmbaiddaa.PA
