/- Plain laws of what the printed functions compute. No conditions beside those that each states. -/
import Derived.Test.YtdgopdbmbaiddaaLBase
import Derived.Test.YtdgopdbmbaiddaaLCount
import Derived.Test.YtdgopdbmbaiddaaLCount1
import Derived.Test.YtdgopdbmbaiddaaLPrim
import Derived.Test.YtdgopdbmbaiddaaLPrim2
import Derived.Test.YtdgopdbmbaiddaaLSmooth
import Derived.Test.YtdgopdbmbaiddaaLVal
import Derived.Test.YtdgopdbmbaiddaaLVal1
import Derived.Test.YtdgopdbmbaiddaaPAx1
import Derived.Test.YtdgopdbmbaiddaaPAx13
import Derived.Test.YtdgopdbmbaiddaaPAx3
import Derived.Test.YtdgopdbmbaiddaaPAx8
import Derived.Test.YtdgopdbmbaiddaaWMore
namespace Go.Proofs.Ytdgopdbmbaiddaa.PA
open Go.RowKit Go.Proofs.YtdgopdbmbaiddaaW.PrintWords Go.Proofs.YtdgopdbmbaiddaaW.PrintLast Go.Proofs.YtdgopdbmbaiddaaW.PrintMore
set_option linter.unusedVariables false
set_option linter.unusedSimpArgs false

/-- a place does not show that the form is not smooth -/
def okP (p : Int) (f a : List Int) : Bool := !((xval f a % p == 0) && slopeB p f a)
theorem runs_ok (p : Int) (f : List Int) (sf : small f) : ∀ (L : List (List Int)), (∀ a ∈ L, small a) → runs (smoothStep p f) true L = L.all (okP p f)
  | [], _ => rfl
  | a :: L, hs => by
    have sa := hs a List.mem_cons_self
    have ih := runs_ok p f sf L (fun b hb => hs b (List.mem_cons_of_mem _ hb))
    have e : smoothStep p f true a = (okP p f a, okP p f a) := by
      rw [smoothStep, valI_eq sf sa, flatI_eq p f a sf sa, okP]
      by_cases h : xval f a % p = 0 <;> simp [h]
    rw [runs, e, List.all_cons]
    cases h : okP p f a
    · rfl
    · simpa using ih
theorem smoothI_eq {p : Int} {f : List Int} (h : numsB p f 20 = true) : smoothI p f = (places p.toNat).all (okP p f) := by
  obtain ⟨hp, hl, hr⟩ := numsB_prime h
  have hb := prime_bd hp
  obtain ⟨q, rfl⟩ := Int.eq_ofNat_of_zero_le (show 0 ≤ p by omega)
  rw [smoothI, Int.toNat_natCast, runs_ok _ _ (small_of h)]
  intro a ha
  obtain ⟨n, c, hn, hc, rfl⟩ := places_mem ha
  exact small_of (placeRow_nums hp hn hc)
theorem all_sP (p : Nat) (hp : 0 < p) (g : List Int → Bool) : ((List.range (1 + p + p ^ 2 + p ^ 3)).map (sP p)).all g = (places p).all g := by
  rw [sP_list p hp, places_eq]
  simp only [List.all_append, List.append_nil]
  cases (rowFrom p 3 0).all g <;> cases (rowFrom p 2 0).all g <;> cases (rowFrom p 1 0).all g <;> cases (rowFrom p 0 0).all g <;> rfl
theorem FormSmooth_l (p : Nat) (f : List Int) (h : numsB p f 20 = true) : ∀ (d : Nat) (n : Nat), n + d = 1 + p + p ^ 2 + p ^ 3 → Ev (fun k => spec_FormSmooth.l0 k p f (n : Int)) (((List.range' n d).map (sP p)).all (okP p f)) := by
  obtain ⟨hp, hl, hr⟩ := numsB_prime h
  have hb := prime_bd hp
  have hq := pow3_le (p := p) (by omega)
  have e2 : (p : Int) * (p : Int) = ((p ^ 2 : Nat) : Int) := by rw [Nat.pow_two]; simp
  have e3 : ((p ^ 2 : Nat) : Int) * (p : Int) = ((p ^ 3 : Nat) : Int) := by rw [Nat.pow_succ p 2]; simp
  have eT : wrap64 (wrap64 (wrap64 (1 + (p : Int)) + wrap64 ((p : Int) * p)) + wrap64 (wrap64 ((p : Int) * p) * p)) = ((1 + p + p ^ 2 + p ^ 3 : Nat) : Int) := by
    rw [e2, wsm (i := ((p ^ 2 : Nat) : Int)) (by omega) (by omega), e3, wsm (i := 1 + (p : Int)) (by omega) (by omega), wsm (i := ((p ^ 3 : Nat) : Int)) (by omega) (by omega), wsm (i := 1 + (p : Int) + ((p ^ 2 : Nat) : Int)) (by omega) (by omega), wsm (by omega) (by omega)]
    omega
  intro d
  induction d with
  | zero =>
    intro n hn
    refine Ev.step (f := fun _ => some true) (fun k => ?_) ?_
    · rw [spec_FormSmooth.l0, eT, if_neg (by omega)]
    · simpa using Ev.now true
  | succ d ih =>
    intro n hn
    have hs : n < 1 + p + p ^ 2 + p ^ 3 := by omega
    have hm := sP_mem (p := p) (by omega) hs
    obtain ⟨i, j, hi, hj, hij⟩ := places_mem hm
    have hnum : numsB p (sP p n) 4 = true := by rw [hij]; exact placeRow_nums hp hi hj
    have hv := sValue_ev p f (sP p n) hb hl (numsB_prime hnum).2.1 (small_of h) (small_of hnum)
    have hd := fun b => sSlope_ev p f (sP p n) b hb hl (numsB_prime hnum).2.1 (small_of h) (small_of hnum)
    have ih := ih (n + 1) (by omega)
    rw [List.range'_succ, List.map_cons, List.all_cons]
    refine Ev.step (f := fun k => (spec_l6sValue.f k p f (sP p n)).bind fun t => if t = 0 then ((spec_l6sSlope.f k p f (sP p n) 0).bind fun t => if t = 0 then ((spec_l6sSlope.f k p f (sP p n) 1).bind fun t => if t = 0 then ((spec_l6sSlope.f k p f (sP p n) 2).bind fun t => if t = 0 then ((spec_l6sSlope.f k p f (sP p n) 3).bind fun t => if t = 0 then some false else spec_FormSmooth.l0 k p f ((n + 1 : Nat) : Int)) else spec_FormSmooth.l0 k p f ((n + 1 : Nat) : Int)) else spec_FormSmooth.l0 k p f ((n + 1 : Nat) : Int)) else spec_FormSmooth.l0 k p f ((n + 1 : Nat) : Int)) else spec_FormSmooth.l0 k p f ((n + 1 : Nat) : Int)) (fun k => ?_) (Ev.bind hv ?_)
    · rw [spec_FormSmooth.l0, eT, if_pos (by omega), sPlace_eq p n (by omega) (by omega) hs, wsm (i := (n : Int) + 1) (by omega) (by omega)]
      rfl
    · have go : okP p f (sP p n) = true → Ev (fun k => spec_FormSmooth.l0 k p f ((n + 1 : Nat) : Int)) (okP p f (sP p n) && (List.map (sP p) (List.range' (n + 1) d)).all (okP p f)) := by
        intro ho; rw [ho, Bool.true_and]; exact ih
      refine Ev.ite (fun hz => Ev.bind (hd 0) (Ev.ite (fun h0 => Ev.bind (hd 1) (Ev.ite (fun h1 => Ev.bind (hd 2) (Ev.ite (fun h2 => Ev.bind (hd 3) (Ev.ite (fun h3 => ?_) (fun h3 => ?_))) (fun h2 => ?_))) (fun h1 => ?_))) (fun h0 => ?_))) (fun hz => ?_)
      · rw [show okP p f (sP p n) = false from by simp [okP, slopeB, hz, h0, h1, h2, h3]]
        exact Ev.now false
      · exact go (by simp [okP, slopeB, h3])
      · exact go (by simp [okP, slopeB, h2])
      · exact go (by simp [okP, slopeB, h1])
      · exact go (by simp [okP, slopeB, h0])
      · exact go (by simp [okP, slopeB, hz])
/-- what both FormSmooths return -/
def smoothP (p : Int) (f : List Int) : Bool := numsB p f 20 && (places p.toNat).all (okP p f)
theorem sFormSmooth_ev (p : Int) (f : List Int) (hl : f.length ≤ 1000000000) : Ev (fun k => spec_FormSmooth.f k p f) (smoothP p f) := by
  unfold spec_FormSmooth.f smoothP
  refine Ev.bind (FormIn_ev p f hl) ?_
  cases h : numsB p f 20
  · exact Ev.now _
  · simp only [if_true, Bool.true_and]
    have hb := prime_bd (numsB_prime h).1
    obtain ⟨q, rfl⟩ := Int.eq_ofNat_of_zero_le (show 0 ≤ p by omega)
    have := FormSmooth_l q f h (1 + q + q ^ 2 + q ^ 3) 0 (by omega)
    rw [← List.range_eq_range', all_sP q (by omega)] at this
    simpa using this
theorem iFormSmooth_eq (p : Int) (f : List Int) : impl_FormSmooth.f p f = some (smoothP p f) := by
  unfold impl_FormSmooth.f smoothP
  rw [show (20 : Int) = ((20 : Nat) : Int) from rfl, areNumbers_eq]
  cases h : numsB p f 20
  · rfl
  · simp only [Option.bind_some, if_true, Bool.true_and]
    rw [smoothI_eq h]

end Go.Proofs.Ytdgopdbmbaiddaa.PA
