/- Plain laws of what the printed functions compute. No conditions beside those that each states. -/
import Derived.Test.YtdgopdbmbaiddaaLBase
import Derived.Test.YtdgopdbmbaiddaaPAx0
import Derived.Test.YtdgopdbmbaiddaaPAx13
import Derived.Test.YtdgopdbmbaiddaaPAx8
import Derived.Test.YtdgopdbmbaiddaaWMore
namespace Go.Proofs.Ytdgopdbmbaiddaa.PA
open Go.RowKit Go.Proofs.YtdgopdbmbaiddaaW.PrintWords Go.Proofs.YtdgopdbmbaiddaaW.PrintLast Go.Proofs.YtdgopdbmbaiddaaW.PrintMore
set_option linter.unusedVariables false
set_option linter.unusedSimpArgs false

/-- one summand of a derivative -/
def sadd (p s c u v : Int) : Int := Int.tmod (wrap64 (s + (wrap64 ((Int.tmod (wrap64 (c * u)) p) * v)))) p
/-- a triple's summands of the derivative by b -/
def sslope (p : Int) (f a : List Int) (b s n i j l : Int) : Int :=
  (fun s1 => (fun s2 => if l = b then sadd p s2 (rd f n) (rd a i) (rd a j) else s2) (if j = b then sadd p s1 (rd f n) (rd a i) (rd a l) else s1)) (if i = b then sadd p s (rd f n) (rd a j) (rd a l) else s)
def sSl (p : Int) (f a : List Int) (b : Int) : Int → Int → List S53 → Int
  | s, _, [] => s
  | s, n, t :: ts => sSl p f a b (sslope p f a b s n t.f0 t.f1 t.f2) (n + 1) ts
theorem slope_l2 (p : Int) (f a : List Int) (b i j l l' n n' s r : Int) (hp : p ≠ 0) (hf : f.length = 20) (ha : a.length = 4) (hi : 0 ≤ i ∧ i < 4) (hj : 0 ≤ j ∧ j < 4) (hl : 0 ≤ l ∧ l < 4) (hn : 0 ≤ n ∧ n < 20) (el : l + 1 = l') (en : n + 1 = n')
    (h : Ev (fun k => spec_l6sSlope.l2 k p f a b (sslope p f a b s n i j l) n' i j l') r) : Ev (fun k => spec_l6sSlope.l2 k p f a b s n i j l) r := by
  have h1 : n < (f.length : Int) := by omega
  have h2 : i < (a.length : Int) := by omega
  have h3 : j < (a.length : Int) := by omega
  have h4 : l < (a.length : Int) := by omega
  have w1 : wrap64 (n + 1) = n' := by rw [en]; exact wsm (by omega) (by omega)
  have w2 : wrap64 (l + 1) = l' := by rw [el]; exact wsm (by omega) (by omega)
  refine Ev.step (f := fun k => spec_l6sSlope.j3 k p f a b (if i = b then sadd p s (rd f n) (rd a j) (rd a l) else s) n i j l (rd f n)) (fun k => ?_) ?_
  · by_cases e : i = b
    · simp only [spec_l6sSlope.l2, if_pos hl.2, if_pos hn.1, if_pos h1, if_pos e, if_pos hj.1, if_pos h3, if_neg hp, if_pos hl.1, if_pos h4, sadd]
    · simp only [spec_l6sSlope.l2, if_pos hl.2, if_pos hn.1, if_pos h1, if_neg e]
  · refine Ev.step (fun k => ?_) h
    simp only [sslope]
    generalize (if i = b then sadd p s (rd f n) (rd a j) (rd a l) else s) = s1
    by_cases e : j = b
    · by_cases e2 : l = b
      · simp only [spec_l6sSlope.j3, if_pos e, if_pos e2, if_pos hi.1, if_pos h2, if_neg hp, if_pos hl.1, if_pos h4, if_pos hj.1, if_pos h3, w1, w2, sadd]
      · simp only [spec_l6sSlope.j3, if_pos e, if_neg e2, if_pos hi.1, if_pos h2, if_neg hp, if_pos hl.1, if_pos h4, if_pos hj.1, if_pos h3, w1, w2, sadd]
    · by_cases e2 : l = b
      · simp only [spec_l6sSlope.j3, if_neg e, if_pos e2, if_pos hi.1, if_pos h2, if_neg hp, if_pos hl.1, if_pos h4, if_pos hj.1, if_pos h3, w1, w2, sadd]
      · simp only [spec_l6sSlope.j3, if_neg e, if_neg e2, if_pos hi.1, if_pos h2, if_neg hp, if_pos hl.1, if_pos h4, if_pos hj.1, if_pos h3, w1, w2, sadd]
theorem slope_l1 (p : Int) (f a : List Int) (b i j n s r : Int) (h : Ev (fun k => spec_l6sSlope.l2 k p f a b s n i j j) r) (hj : j < 4 := by omega) : Ev (fun k => spec_l6sSlope.l1 k p f a b s n i j) r :=
  Ev.step (fun k => by rw [spec_l6sSlope.l1, if_pos hj]) h
theorem slope_l0 (p : Int) (f a : List Int) (b i n s r : Int) (h : Ev (fun k => spec_l6sSlope.l1 k p f a b s n i i) r) (hi : i < 4 := by omega) : Ev (fun k => spec_l6sSlope.l0 k p f a b s n i) r :=
  Ev.step (fun k => by rw [spec_l6sSlope.l0, if_pos hi]) h
theorem slope_e2 (p : Int) (f a : List Int) (b i j j' n s r : Int) (e : wrap64 (j + 1) = j') (h : Ev (fun k => spec_l6sSlope.l1 k p f a b s n i j') r) : Ev (fun k => spec_l6sSlope.l2 k p f a b s n i j 4) r :=
  Ev.step (fun k => by rw [spec_l6sSlope.l2, if_neg (by omega), e]) h
theorem slope_e1 (p : Int) (f a : List Int) (b i i' n s r : Int) (e : wrap64 (i + 1) = i') (h : Ev (fun k => spec_l6sSlope.l0 k p f a b s n i') r) : Ev (fun k => spec_l6sSlope.l1 k p f a b s n i 4) r :=
  Ev.step (fun k => by rw [spec_l6sSlope.l1, if_neg (by omega), e]) h
theorem sSlope_any (p : Int) (f a : List Int) (b r : Int) (hp : p ≠ 0) (hf : f.length = 20) (ha : a.length = 4) (h : sSl p f a b 0 0 tripL = r) : Ev (fun k => spec_l6sSlope.f k p f a b) r := by
  unfold spec_l6sSlope.f
  refine slope_l0 p f a b 0 0 _ r ?_
  refine slope_l1 p f a b 0 0 0 _ r ?_
  refine slope_l2 p f a b 0 0 0 1 0 1 _ r hp hf ha (by omega) (by omega) (by omega) (by omega) rfl rfl ?_
  refine slope_l2 p f a b 0 0 1 2 1 2 _ r hp hf ha (by omega) (by omega) (by omega) (by omega) rfl rfl ?_
  refine slope_l2 p f a b 0 0 2 3 2 3 _ r hp hf ha (by omega) (by omega) (by omega) (by omega) rfl rfl ?_
  refine slope_l2 p f a b 0 0 3 4 3 4 _ r hp hf ha (by omega) (by omega) (by omega) (by omega) rfl rfl ?_
  refine slope_e2 p f a b 0 0 1 4 _ r (by unfold wrap64; omega) ?_
  refine slope_l1 p f a b 0 1 4 _ r ?_
  refine slope_l2 p f a b 0 1 1 2 4 5 _ r hp hf ha (by omega) (by omega) (by omega) (by omega) rfl rfl ?_
  refine slope_l2 p f a b 0 1 2 3 5 6 _ r hp hf ha (by omega) (by omega) (by omega) (by omega) rfl rfl ?_
  refine slope_l2 p f a b 0 1 3 4 6 7 _ r hp hf ha (by omega) (by omega) (by omega) (by omega) rfl rfl ?_
  refine slope_e2 p f a b 0 1 2 7 _ r (by unfold wrap64; omega) ?_
  refine slope_l1 p f a b 0 2 7 _ r ?_
  refine slope_l2 p f a b 0 2 2 3 7 8 _ r hp hf ha (by omega) (by omega) (by omega) (by omega) rfl rfl ?_
  refine slope_l2 p f a b 0 2 3 4 8 9 _ r hp hf ha (by omega) (by omega) (by omega) (by omega) rfl rfl ?_
  refine slope_e2 p f a b 0 2 3 9 _ r (by unfold wrap64; omega) ?_
  refine slope_l1 p f a b 0 3 9 _ r ?_
  refine slope_l2 p f a b 0 3 3 4 9 10 _ r hp hf ha (by omega) (by omega) (by omega) (by omega) rfl rfl ?_
  refine slope_e2 p f a b 0 3 4 10 _ r (by unfold wrap64; omega) ?_
  refine slope_e1 p f a b 0 1 10 _ r (by unfold wrap64; omega) ?_
  refine slope_l0 p f a b 1 10 _ r ?_
  refine slope_l1 p f a b 1 1 10 _ r ?_
  refine slope_l2 p f a b 1 1 1 2 10 11 _ r hp hf ha (by omega) (by omega) (by omega) (by omega) rfl rfl ?_
  refine slope_l2 p f a b 1 1 2 3 11 12 _ r hp hf ha (by omega) (by omega) (by omega) (by omega) rfl rfl ?_
  refine slope_l2 p f a b 1 1 3 4 12 13 _ r hp hf ha (by omega) (by omega) (by omega) (by omega) rfl rfl ?_
  refine slope_e2 p f a b 1 1 2 13 _ r (by unfold wrap64; omega) ?_
  refine slope_l1 p f a b 1 2 13 _ r ?_
  refine slope_l2 p f a b 1 2 2 3 13 14 _ r hp hf ha (by omega) (by omega) (by omega) (by omega) rfl rfl ?_
  refine slope_l2 p f a b 1 2 3 4 14 15 _ r hp hf ha (by omega) (by omega) (by omega) (by omega) rfl rfl ?_
  refine slope_e2 p f a b 1 2 3 15 _ r (by unfold wrap64; omega) ?_
  refine slope_l1 p f a b 1 3 15 _ r ?_
  refine slope_l2 p f a b 1 3 3 4 15 16 _ r hp hf ha (by omega) (by omega) (by omega) (by omega) rfl rfl ?_
  refine slope_e2 p f a b 1 3 4 16 _ r (by unfold wrap64; omega) ?_
  refine slope_e1 p f a b 1 2 16 _ r (by unfold wrap64; omega) ?_
  refine slope_l0 p f a b 2 16 _ r ?_
  refine slope_l1 p f a b 2 2 16 _ r ?_
  refine slope_l2 p f a b 2 2 2 3 16 17 _ r hp hf ha (by omega) (by omega) (by omega) (by omega) rfl rfl ?_
  refine slope_l2 p f a b 2 2 3 4 17 18 _ r hp hf ha (by omega) (by omega) (by omega) (by omega) rfl rfl ?_
  refine slope_e2 p f a b 2 2 3 18 _ r (by unfold wrap64; omega) ?_
  refine slope_l1 p f a b 2 3 18 _ r ?_
  refine slope_l2 p f a b 2 3 3 4 18 19 _ r hp hf ha (by omega) (by omega) (by omega) (by omega) rfl rfl ?_
  refine slope_e2 p f a b 2 3 4 19 _ r (by unfold wrap64; omega) ?_
  refine slope_e1 p f a b 2 3 19 _ r (by unfold wrap64; omega) ?_
  refine slope_l0 p f a b 3 19 _ r ?_
  refine slope_l1 p f a b 3 3 19 _ r ?_
  refine slope_l2 p f a b 3 3 3 4 19 20 _ r hp hf ha (by omega) (by omega) (by omega) (by omega) rfl rfl ?_
  refine slope_e2 p f a b 3 3 4 20 _ r (by unfold wrap64; omega) ?_
  refine slope_e1 p f a b 3 4 20 _ r (by unfold wrap64; omega) ?_
  refine Ev.step (f := fun _ => some r) (fun k => ?_) (Ev.now _)
  rw [spec_l6sSlope.l0, if_neg (by omega), ← h]
  rfl

end Go.Proofs.Ytdgopdbmbaiddaa.PA
