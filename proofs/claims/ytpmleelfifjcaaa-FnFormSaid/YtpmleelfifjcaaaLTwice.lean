/- Plain laws of what the printed functions compute. No conditions beside those that each states. -/
import Derived.Test.YtpmleelfifjcaaaLBase
import Derived.Test.YtpmleelfifjcaaaLPrim
import Derived.Test.YtpmleelfifjcaaaLRow
import Derived.Test.YtpmleelfifjcaaaLVal
import Derived.Test.YtpmleelfifjcaaaPAx2
import Derived.Test.YtpmleelfifjcaaaPAx3
import Derived.Test.YtpmleelfifjcaaaWMore
namespace Go.Proofs.Ytpmleelfifjcaaa.PA
open Go.RowKit Go.Proofs.YtpmleelfifjcaaaW.PrintWords Go.Proofs.YtpmleelfifjcaaaW.PrintLast Go.Proofs.YtpmleelfifjcaaaW.PrintMore
set_option linter.unusedVariables false
set_option linter.unusedSimpArgs false

/-- twice a form -/
def twiceF (p : Int) (f : List Int) : List Int := f.map fun x => 2 * x % p
theorem rd_twice (p : Int) (f : List Int) (i : Int) : rd (twiceF p f) i = 2 * rd f i % p := by
  unfold rd twiceF
  rw [List.getD_eq_getElem?_getD, List.getD_eq_getElem?_getD, List.getElem?_map]
  cases f[i.toNat]? <;> simp
theorem twice_nums {p : Int} {f : List Int} {n : Nat} (h : numsB p f n = true) : numsB p (twiceF p f) n = true := by
  obtain ⟨hp, hl, hr⟩ := numsB_prime h
  have hb := prime_bd hp
  refine numsB_mk hp (by simp [twiceF, hl]) (fun x hx => ?_)
  obtain ⟨y, _, rfl⟩ := List.mem_map.1 hx
  exact ⟨Int.emod_nonneg _ (by omega), Int.emod_lt_of_pos _ (by omega)⟩
theorem twice_step (p s s' x t y : Int) (h : s' % p = (2 * s) % p) : (s' + 2 * x % p * t * y) % p = (2 * (s + x * t * y)) % p := by
  have e1 : (2 * x % p * t * y) % p = (2 * (x * t * y)) % p := by
    rw [Int.mul_emod, Int.mul_emod (2 * x % p) t p, Int.emod_emod, ← Int.mul_emod (2 * x) t p, ← Int.mul_emod]
    congr 1
    simp only [Int.mul_assoc]
  rw [Int.add_emod, h, e1, ← Int.add_emod, Int.mul_add]
theorem twice_xs2 (p : Int) (f a : List Int) (t : Int) : ∀ (d : Nat) (s s' n l : Int), s' % p = (2 * s) % p → xs2 (twiceF p f) a t d s' n l % p = (2 * xs2 f a t d s n l) % p
  | 0, s, s', n, l, h => h
  | d + 1, s, s', n, l, h => by
    rw [xs2, xs2, rd_twice]
    exact twice_xs2 p f a t d _ _ _ _ (twice_step p s s' _ _ _ h)
theorem twice_xs1 (p : Int) (f a : List Int) (i : Int) : ∀ (d : Nat) (s s' n j : Int), s' % p = (2 * s) % p → xs1 (twiceF p f) a i d s' n j % p = (2 * xs1 f a i d s n j) % p
  | 0, s, s', n, j, h => h
  | d + 1, s, s', n, j, h => by
    rw [xs1, xs1]
    exact twice_xs1 p f a i d _ _ _ _ (twice_xs2 p f a _ (d + 1) s s' n j h)
theorem twice_xs0 (p : Int) (f a : List Int) : ∀ (d : Nat) (s s' n i : Int), s' % p = (2 * s) % p → xs0 (twiceF p f) a d s' n i % p = (2 * xs0 f a d s n i) % p
  | 0, s, s', n, i, h => h
  | d + 1, s, s', n, i, h => by
    rw [xs0, xs0]
    exact twice_xs0 p f a d _ _ _ _ (twice_xs1 p f a i (d + 1) s s' n i h)
theorem twice_xval (p : Int) (f a : List Int) : xval (twiceF p f) a % p = (2 * xval f a) % p := twice_xs0 p f a 4 0 0 0 0 (by simp)
theorem twice_mod (p x : Int) : (2 * (x % p)) % p = (2 * x) % p := by rw [Int.mul_emod, Int.emod_emod, ← Int.mul_emod]
/-- what both FormValues return -/
def valueP (p : Int) (f a : List Int) : Int × Bool := if numsB p f 20 = true then (if placeB p a = true then (xval f a % p, true) else (0, false)) else (0, false)
theorem placeB_nums {p : Int} {a : List Int} (h : placeB p a = true) : numsB p a 4 = true := by
  unfold placeB at h
  rw [Bool.and_eq_true] at h
  exact h.1
theorem iFormValue_ev (p : Int) (f a : List Int) : Ev (fun k => impl_FormValue.f k p f a) (valueP p f a) := by
  unfold impl_FormValue.f valueP
  refine Ev.bind (Ev.k (show impl_areNumbers.f p f 20 = some (numsB p f 20) from areNumbers_eq p f 20)) ?_
  cases hf : numsB p f 20
  · exact Ev.no (by simp) (Ev.now _)
  · refine Ev.yes rfl (Ev.bind (Ev.k (isPlace_eq p a)) ?_)
    cases ha : placeB p a
    · exact Ev.no (by simp) (Ev.now _)
    · have hn := placeB_nums ha
      obtain ⟨hp, hl, _⟩ := numsB_prime hf
      exact Ev.yes rfl (Ev.bind (iValue_ev p f a (prime_bd hp) hl (numsB_prime hn).2.1 (small_of hf) (small_of hn)) (Ev.now _))

end Go.Proofs.Ytpmleelfifjcaaa.PA
