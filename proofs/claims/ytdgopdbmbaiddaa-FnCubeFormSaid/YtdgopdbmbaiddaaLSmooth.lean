/- Plain laws of what the printed functions compute. No conditions beside those that each states. -/
import Derived.Test.YtdgopdbmbaiddaaLBase
import Derived.Test.YtdgopdbmbaiddaaLSlope
import Derived.Test.YtdgopdbmbaiddaaLVal
import Derived.Test.YtdgopdbmbaiddaaPAx0
import Derived.Test.YtdgopdbmbaiddaaPAx13
import Derived.Test.YtdgopdbmbaiddaaPAx8
import Derived.Test.YtdgopdbmbaiddaaWMore
namespace Go.Proofs.Ytdgopdbmbaiddaa.PA
open Go.RowKit Go.Proofs.YtdgopdbmbaiddaaW.PrintWords Go.Proofs.YtdgopdbmbaiddaaW.PrintLast Go.Proofs.YtdgopdbmbaiddaaW.PrintMore
set_option linter.unusedVariables false
set_option linter.unusedSimpArgs false

/-- the same summands, exactly -/
def xadd (f a : List Int) (b n : Int) (t : S53) : Int :=
  (if t.f0 = b then rd f n * rd a t.f1 * rd a t.f2 else 0) + (if t.f1 = b then rd f n * rd a t.f0 * rd a t.f2 else 0) + (if t.f2 = b then rd f n * rd a t.f0 * rd a t.f1 else 0)
def xSl (f a : List Int) (b : Int) : Int → Int → List S53 → Int
  | s, _, [] => s
  | s, n, t :: ts => xSl f a b (s + xadd f a b n t) (n + 1) ts
theorem tri_le {c u v : Int} (hc : 0 ≤ c ∧ c ≤ 30) (hu : 0 ≤ u ∧ u ≤ 30) (hv : 0 ≤ v ∧ v ≤ 30) : 0 ≤ c * u ∧ c * u ≤ 900 ∧ 0 ≤ c * u * v ∧ c * u * v ≤ 27000 := by
  have m1 := mul_le_of hc.1 hc.2 hu.1 hu.2
  have m2 := mul_le_of m1.1 (show c * u ≤ 900 by omega) hv.1 hv.2
  omega
theorem sadd_eq (p s s0 c u v : Int) (hp : 7 ≤ p ∧ p ≤ 31) (hs : s = s0 % p) (hc : 0 ≤ c ∧ c ≤ 30) (hu : 0 ≤ u ∧ u ≤ 30) (hv : 0 ≤ v ∧ v ≤ 30) : sadd p s c u v = (s0 + c * u * v) % p := by
  have m1 := tri_le hc hu hv
  have n1 := Int.emod_nonneg (c * u) (show p ≠ 0 by omega)
  have n2 := Int.emod_lt_of_pos (c * u) (show 0 < p by omega)
  have m2 := mul_le_of n1 (show (c * u) % p ≤ 30 by omega) hv.1 hv.2
  have n5 := Int.emod_nonneg s0 (show p ≠ 0 by omega)
  have n6 := Int.emod_lt_of_pos s0 (show 0 < p by omega)
  unfold sadd
  rw [wsm (i := c * u) (by omega) (by omega), Int.tmod_eq_emod_of_nonneg m1.1, wsm (i := (c * u) % p * v) (by omega) (by omega), hs, wsm (by omega) (by omega), Int.tmod_eq_emod_of_nonneg (by omega)]
  rw [Int.add_emod, Int.emod_emod, Int.mul_emod ((c * u) % p) v p, Int.emod_emod, ← Int.mul_emod (c * u) v p, ← Int.add_emod]
theorem sslope_eq (p : Int) (f a : List Int) (hp : 7 ≤ p ∧ p ≤ 31) (sf : small f) (sa : small a) (b s s0 n : Int) (t : S53) (hs : s = s0 % p) : sslope p f a b s n t.f0 t.f1 t.f2 = (s0 + xadd f a b n t) % p := by
  have e1 : ∀ (s s0 : Int) (q : Prop) [Decidable q] (u v : Int), s = s0 % p → (if q then sadd p s (rd f n) (rd a u) (rd a v) else s) = (s0 + if q then rd f n * rd a u * rd a v else 0) % p := by
    intro s s0 q _ u v h
    split
    · exact sadd_eq p s s0 _ _ _ hp h (sf n) (sa u) (sa v)
    · rw [h]; simp
  unfold sslope xadd
  have h1 := e1 s s0 (t.f0 = b) t.f1 t.f2 hs
  have h2 := e1 _ _ (t.f1 = b) t.f0 t.f2 h1
  have h3 := e1 _ _ (t.f2 = b) t.f0 t.f1 h2
  simp only
  rw [h3]
  congr 1
  omega
theorem sSl_eq (p : Int) (f a : List Int) (hp : 7 ≤ p ∧ p ≤ 31) (sf : small f) (sa : small a) (b : Int) : ∀ (ts : List S53) (s s0 n : Int), s = s0 % p → sSl p f a b s n ts = xSl f a b s0 n ts % p
  | [], s, s0, n, h => h
  | t :: ts, s, s0, n, h => by
    rw [sSl, xSl]
    exact sSl_eq p f a hp sf sa b ts _ _ _ (sslope_eq p f a hp sf sa b s s0 n t h)
theorem rd_set (s : List Int) (i j : Int) (v : Int) (hi : 0 ≤ i ∧ i < s.length) (hj : 0 ≤ j) : rd (s.set i.toNat v) j = if i = j then v else rd s j := by
  unfold rd
  simp only [List.getD_eq_getElem?_getD, List.getElem?_set]
  by_cases h : i = j
  · subst h
    rw [if_pos rfl, if_pos rfl, if_pos (by omega)]
    rfl
  · rw [if_neg h, if_neg (by omega)]
theorem flatAdd_rd (f a s : List Int) (n : Nat) (t u v b : Int) (sf : small f) (sa : small a) (hs : s.length = 4) (ht : 0 ≤ t ∧ t < 4) (hb : 0 ≤ b) (B : Int) (hB : ∀ i, 0 ≤ rd s i ∧ rd s i ≤ B) (hBB : B ≤ 100000000) :
    rd (flatAdd f a n s t u v) b = rd s b + (if t = b then rd f n * rd a u * rd a v else 0) := by
  have m := tri_le (sf n) (sa u) (sa v)
  have := hB t
  rw [flatAdd, rd_set _ _ _ _ (by omega) hb, wsm (i := rd f n * rd a u) (by omega) (by omega), wsm (i := rd f n * rd a u * rd a v) (by omega) (by omega), wsm (by omega) (by omega)]
  by_cases h : t = b
  · subst h; simp
  · simp [h]
theorem rd_neg_or (s : List Int) (i : Int) (h : i < 0) : rd s i = rd s 0 := by unfold rd; rw [show i.toNat = (0 : Int).toNat from by omega]
theorem flatAdd_bd (f a s : List Int) (n : Nat) (t u v : Int) (sf : small f) (sa : small a) (hs : s.length = 4) (ht : 0 ≤ t ∧ t < 4) (B : Int) (hB : ∀ i, 0 ≤ rd s i ∧ rd s i ≤ B) (hBB : B ≤ 100000000) :
    ∀ i, 0 ≤ rd (flatAdd f a n s t u v) i ∧ rd (flatAdd f a n s t u v) i ≤ B + 27000 := by
  have m := tri_le (sf n) (sa u) (sa v)
  have key : ∀ i, 0 ≤ i → 0 ≤ rd (flatAdd f a n s t u v) i ∧ rd (flatAdd f a n s t u v) i ≤ B + 27000 := by
    intro i hi
    rw [flatAdd_rd f a s n t u v i sf sa hs ht hi B hB hBB]
    have := hB i
    split <;> omega
  intro i
  by_cases hi : 0 ≤ i
  · exact key i hi
  · rw [rd_neg_or _ i (by omega)]; exact key 0 (by omega)
theorem flatStep_rd (f a s : List Int) (n : Nat) (t : S53) (b : Int) (sf : small f) (sa : small a) (hs : s.length = 4) (h0 : 0 ≤ t.f0 ∧ t.f0 < 4) (h1 : 0 ≤ t.f1 ∧ t.f1 < 4) (h2 : 0 ≤ t.f2 ∧ t.f2 < 4) (hb : 0 ≤ b) (B : Int) (hB : ∀ i, 0 ≤ rd s i ∧ rd s i ≤ B) (hBB : B ≤ 10000000) :
    rd (flatStep f a n s t) b = rd s b + xadd f a b n t ∧ (∀ i, 0 ≤ rd (flatStep f a n s t) i ∧ rd (flatStep f a n s t) i ≤ B + 81000) := by
  have b1 := flatAdd_bd f a s n t.f0 t.f1 t.f2 sf sa hs h0 B hB (by omega)
  have l1 : (flatAdd f a n s t.f0 t.f1 t.f2).length = 4 := by rw [add_len]; exact hs
  have b2 := flatAdd_bd f a _ n t.f1 t.f2 t.f0 sf sa l1 h1 _ b1 (by omega)
  have l2 : (flatAdd f a n (flatAdd f a n s t.f0 t.f1 t.f2) t.f1 t.f2 t.f0).length = 4 := by rw [add_len]; exact l1
  have b3 := flatAdd_bd f a _ n t.f2 t.f0 t.f1 sf sa l2 h2 _ b2 (by omega)
  refine ⟨?_, fun i => ?_⟩
  · rw [flatStep, flatAdd_rd f a _ n t.f2 t.f0 t.f1 b sf sa l2 h2 hb _ b2 (by omega), flatAdd_rd f a _ n t.f1 t.f2 t.f0 b sf sa l1 h1 hb _ b1 (by omega), flatAdd_rd f a s n t.f0 t.f1 t.f2 b sf sa hs h0 hb _ hB (by omega), xadd]
    rw [show rd f n * rd a t.f2 * rd a t.f0 = rd f n * rd a t.f0 * rd a t.f2 from by rw [Int.mul_assoc, Int.mul_comm (rd a t.f2), Int.mul_assoc]]
    omega
  · have := b3 i
    show 0 ≤ rd (flatAdd f a n _ t.f2 t.f0 t.f1) i ∧ rd (flatAdd f a n _ t.f2 t.f0 t.f1) i ≤ _
    omega
theorem flatSums_rd (f a : List Int) (sf : small f) (sa : small a) (b : Int) (hb : 0 ≤ b) : ∀ (ts : List S53) (n : Nat) (s : List Int) (B : Int), s.length = 4 → (∀ t ∈ ts, (0 ≤ t.f0 ∧ t.f0 < 4) ∧ (0 ≤ t.f1 ∧ t.f1 < 4) ∧ 0 ≤ t.f2 ∧ t.f2 < 4) → (∀ i, 0 ≤ rd s i ∧ rd s i ≤ B) → B + 81000 * ts.length ≤ 10000000 →
    rd (flatSums f a n s ts) b = xSl f a b (rd s b) n ts ∧ (flatSums f a n s ts).length = 4 ∧ 0 ≤ rd (flatSums f a n s ts) b
  | [], n, s, B, hs, _, hB, _ => ⟨rfl, hs, (hB b).1⟩
  | t :: ts, n, s, B, hs, ht, hB, hl => by
    simp only [List.length_cons] at hl
    obtain ⟨h0, h1, h2⟩ := ht t List.mem_cons_self
    obtain ⟨e, hb2⟩ := flatStep_rd f a s n t b sf sa hs h0 h1 h2 hb B hB (by omega)
    have ih := flatSums_rd f a sf sa b hb ts (n + 1) (flatStep f a n s t) (B + 81000) (by simp [flatStep, add_len, hs]) (fun x hx => ht x (List.mem_cons_of_mem _ hx)) hb2 (by omega)
    rw [flatSums, xSl, ih.1, e]
    exact ⟨rfl, ih.2.1, by rw [← e]; have := ih.2.2; rw [ih.1] at this; exact this⟩
theorem trip_all : ∀ t ∈ tripL, (0 ≤ t.f0 ∧ t.f0 < 4) ∧ (0 ≤ t.f1 ∧ t.f1 < 4) ∧ 0 ≤ t.f2 ∧ t.f2 < 4 := by
  intro t ht
  simp only [tripL, List.mem_cons, List.not_mem_nil, or_false] at ht
  rcases ht with rfl | rfl | rfl | rfl | rfl | rfl | rfl | rfl | rfl | rfl | rfl | rfl | rfl | rfl | rfl | rfl | rfl | rfl | rfl | rfl <;> simp
/-- are all derivatives 0 -/
def slopeB (p : Int) (f a : List Int) : Bool := (xSl f a 0 0 0 tripL % p == 0) && (xSl f a 1 0 0 tripL % p == 0) && (xSl f a 2 0 0 tripL % p == 0) && (xSl f a 3 0 0 tripL % p == 0)
theorem flatI_eq (p : Int) (f a : List Int) (sf : small f) (sa : small a) : flatI p f a = slopeB p f a := by
  have h := fun b hb => flatSums_rd f a sf sa b hb tripL 0 [0, 0, 0, 0] 0 rfl trip_all (by intro i; unfold rd; rw [List.getD_eq_getElem?_getD]; rcases (by omega : i.toNat = 0 ∨ i.toNat = 1 ∨ i.toNat = 2 ∨ i.toNat = 3 ∨ 4 ≤ i.toNat) with e | e | e | e | e <;> first | (rw [e]; exact ⟨Int.le_refl _, Int.le_refl _⟩) | (rw [List.getElem?_eq_none (show [(0 : Int), 0, 0, 0].length ≤ i.toNat from e)]; exact ⟨Int.le_refl _, Int.le_refl _⟩)) (by decide)
  have h0 := h 0 (by omega)
  have h1 := h 1 (by omega)
  have h2 := h 2 (by omega)
  have h3 := h 3 (by omega)
  unfold flatI slopeB
  match hs : flatSums f a 0 [0, 0, 0, 0] tripL, h0.2.1 with
  | [s0, s1, s2, s3], _ =>
    rw [hs] at h0 h1 h2 h3
    have e0 : s0 = xSl f a 0 0 0 tripL := h0.1
    have e1 : s1 = xSl f a 1 0 0 tripL := h1.1
    have e2 : s2 = xSl f a 2 0 0 tripL := h2.1
    have e3 : s3 = xSl f a 3 0 0 tripL := h3.1
    have g0 : 0 ≤ xSl f a 0 0 0 tripL := e0 ▸ (show 0 ≤ s0 from h0.2.2)
    have g1 : 0 ≤ xSl f a 1 0 0 tripL := e1 ▸ (show 0 ≤ s1 from h1.2.2)
    have g2 : 0 ≤ xSl f a 2 0 0 tripL := e2 ▸ (show 0 ≤ s2 from h2.2.2)
    have g3 : 0 ≤ xSl f a 3 0 0 tripL := e3 ▸ (show 0 ≤ s3 from h3.2.2)
    simp only [List.all_cons, List.all_nil, Bool.and_true, e0, e1, e2, e3, Bool.and_assoc, Int.tmod_eq_emod_of_nonneg g0, Int.tmod_eq_emod_of_nonneg g1, Int.tmod_eq_emod_of_nonneg g2, Int.tmod_eq_emod_of_nonneg g3]
theorem sSlope_ev (p : Int) (f a : List Int) (b : Int) (hp : 7 ≤ p ∧ p ≤ 31) (hf : f.length = 20) (ha : a.length = 4) (sf : small f) (sa : small a) : Ev (fun k => spec_l6sSlope.f k p f a b) (xSl f a b 0 0 tripL % p) :=
  sSlope_any p f a b _ (by omega) hf ha (sSl_eq p f a hp sf sa b tripL 0 0 0 (by simp))

end Go.Proofs.Ytdgopdbmbaiddaa.PA
