/- For every code: the value of the drawn form at the drawn place is the reference's, from 0 to p - 1, and that of twice the form is twice it. No conditions. -/
import Derived.Test.YtdgopdbmbaiddaaLBase
import Derived.Test.YtdgopdbmbaiddaaLDraw
import Derived.Test.YtdgopdbmbaiddaaLDrawForm
import Derived.Test.YtdgopdbmbaiddaaLPrim
import Derived.Test.YtdgopdbmbaiddaaLRow
import Derived.Test.YtdgopdbmbaiddaaLTwice
import Derived.Test.YtdgopdbmbaiddaaLVal
import Derived.Test.YtdgopdbmbaiddaaPAx11
import Derived.Test.YtdgopdbmbaiddaaPAx7
import Derived.Test.YtdgopdbmbaiddaaPAx9
import Derived.Test.YtdgopdbmbaiddaaWMore
namespace Go.Proofs.Ytdgopdbmbaiddaa.PA
open Go.RowKit Go.Proofs.YtdgopdbmbaiddaaW.PrintWords Go.Proofs.YtdgopdbmbaiddaaW.PrintLast Go.Proofs.YtdgopdbmbaiddaaW.PrintMore
set_option linter.unusedVariables false
set_option linter.unusedSimpArgs false

theorem DrawFormValue_ev (l : List Int) (h : ∀ x ∈ l, (Lit.int .u8 x).wf = true) : ∃ p f a, Ev (fun k => spec_DrawFormValue.f k l) (p, f, a) ∧ f.length ≤ 20 := by
  obtain ⟨b, hb, hok⟩ := l6Open_eq l h
  obtain ⟨v, hv, hc⟩ := l92Prime_ev b hok 0 (by omega) (by omega)
  obtain ⟨f, s1, hf, hl, _, _⟩ := l92Form_ev b hok v (0 + 1) (by omega) (by omega) (by omega)
  obtain ⟨a, s2, ha, _, _, _⟩ := l92Place_ev b hok v s1 (by omega) (by omega) (by omega)
  refine ⟨v, f, a, ?_, hl⟩
  unfold spec_DrawFormValue.f
  exact Ev.bind (Ev.k hb) (Ev.bind hv (Ev.bind hf (Ev.bind ha (Ev.now _))))
theorem twice_loop (p : Int) (f a : List Int) (n : Int) (hf : numsB p f 20 = true) (ha : placeB p a = true) (hn : n = xval f a % p) : ∀ (d i : Nat), i + d = 20 → Ev (fun k => laws_FnFormValue.l0 k p f a n ((twiceF p f).take i) (i : Int)) true
  | 0, i, h => by
    obtain ⟨hp, hl, hr⟩ := numsB_prime hf
    have hb := prime_bd hp
    have n1 := Int.emod_nonneg (xval f a) (show p ≠ 0 by omega)
    have n2 := Int.emod_lt_of_pos (xval f a) (show 0 < p by omega)
    rw [List.take_of_length_le (by simp [twiceF]; omega)]
    have hv := iFormValue_ev p (twiceF p f) a
    rw [valueP, if_pos (twice_nums hf), if_pos ha] at hv
    refine Ev.step (f := fun k => (impl_FormValue.f k p (twiceF p f) a).bind fun bt395 => (if bt395.2 = true then (if n ≥ 0 then (if n < p then (if p = 0 then (none) else (some (bt395.1 == (Int.tmod (wrap64 (2 * n)) p)))) else (some false)) else (some false)) else (some false))) (fun k => ?_) (Ev.bind hv ?_)
    · rw [laws_FnFormValue.l0, if_neg (by omega)]
    · refine Ev.yes rfl (Ev.yes (by omega) (Ev.yes (by omega) (Ev.no (by omega) ?_)))
      rw [wsm (by omega) (by omega), Int.tmod_eq_emod_of_nonneg (by omega), hn, twice_mod, twice_xval]
      simpa using Ev.now true
  | d + 1, i, h => by
    obtain ⟨hp, hl, hr⟩ := numsB_prime hf
    have hb := prime_bd hp
    have hi : i < f.length := by omega
    have hx := rd_range hf (i : Int) (by omega) (by omega)
    refine Ev.step (f := fun k => laws_FnFormValue.l0 k p f a n ((twiceF p f).take (i + 1)) ((i + 1 : Nat) : Int)) (fun k => ?_) (twice_loop p f a n hf ha hn d (i + 1) (by omega))
    rw [laws_FnFormValue.l0, if_pos (by omega), if_pos (by omega), if_neg (by omega), if_pos (by simp [twiceF]; omega), wsm (i := 2 * rd f (i : Int)) (by omega) (by omega), wsm (i := (i : Int) + 1) (by omega) (by omega), Int.tmod_eq_emod_of_nonneg (by omega)]
    rw [List.take_add_one, List.getElem?_eq_getElem (by simp [twiceF]; omega)]
    simp [twiceF, rd_at f i hi]
theorem FnFormValue_ev (l : List Int) (h : ∀ x ∈ l, (Lit.int .u8 x).wf = true) : Ev (fun k => laws_FnFormValue.f k l) true := by
  unfold laws_FnFormValue.f
  refine Ev.ite (fun _ => Ev.now _) (fun hl => ?_)
  obtain ⟨p, f, a, hd, hfl⟩ := DrawFormValue_ev l h
  refine Ev.bind hd (Ev.bind (iFormValue_ev p f a) (Ev.bind (sFormValue_ev p f a (by omega)) ?_))
  refine Ev.no (by simp) (Ev.yes rfl ?_)
  by_cases hf : numsB p f 20 = true
  · by_cases ha : placeB p a = true
    · have e : valueP p f a = (xval f a % p, true) := by rw [valueP, if_pos hf, if_pos ha]
      simp only [e]
      refine Ev.step (f := fun k => laws_FnFormValue.l0 k p f a (xval f a % p) ((twiceF p f).take 0) ((0 : Nat) : Int)) (fun k => ?_) (twice_loop p f a _ hf ha rfl 20 0 rfl)
      rw [laws_FnFormValue.j0, if_neg (by simp)]; rfl
    · have e : valueP p f a = (0, false) := by rw [valueP, if_pos hf, if_neg ha]
      simp only [e]
      refine Ev.step (f := fun _ => some true) (fun k => ?_) (Ev.now _)
      rw [laws_FnFormValue.j0, if_pos (by rfl)]; rfl
  · have e : valueP p f a = (0, false) := by rw [valueP, if_neg hf]
    simp only [e]
    refine Ev.step (f := fun _ => some true) (fun k => ?_) (Ev.now _)
    rw [laws_FnFormValue.j0, if_pos (by rfl)]; rfl

end Go.Proofs.Ytdgopdbmbaiddaa.PA

namespace Go.Proofs.Ytdgopdbmbaiddaa.Pure
open Go.RowKit Go.Proofs.Ytdgopdbmbaiddaa.PA Go.Proofs.YtdgopdbmbaiddaaW.PrintWords Go.Proofs.YtdgopdbmbaiddaaW.PrintLast
theorem FnFormValue : laws_FnFormValue.Pure := by
  intro l
  intros
  first | exact (FnFormValue_ev l).rounds | exact (FnFormValue_ev l (by assumption)).rounds
end Go.Proofs.Ytdgopdbmbaiddaa.Pure
