/- For every code: the number of stars of the form of cubes over the drawn prime is the reference's, and it is 18, or neither counts any. No conditions. -/
import Derived.Test.YtmenehnfgenlpaaWMore
import Derived.Test.YtmenehnfgenlpaaPAx12
import Derived.Test.YtmenehnfgenlpaaPAx1
import Derived.Test.YtmenehnfgenlpaaPAx7
import Derived.Test.YtmenehnfgenlpaaPAx2
import Derived.Test.YtmenehnfgenlpaaPAx0
import Derived.Test.YtmenehnfgenlpaaPAx8
import Derived.Test.YtmenehnfgenlpaaPAx3
import Derived.Test.YtmenehnfgenlpaaPAx18
import Derived.Test.YtmenehnfgenlpaaPAx6
import Derived.Test.YtmenehnfgenlpaaPAx19
import Derived.Test.YtmenehnfgenlpaaPAx10
import Derived.Test.YtmenehnfgenlpaaPAx9
import Derived.Test.YtmenehnfgenlpaaPAx11
import Derived.Test.YtmenehnfgenlpaaPAx20
import Derived.Test.YtmenehnfgenlpaaPAx5
import Derived.Test.YtmenehnfgenlpaaPAx4
import Derived.Test.YtmenehnfgenlpaaPAx15
import Derived.Test.YtmenehnfgenlpaaPAx16
import Derived.Test.YtmenehnfgenlpaaPAx17
import Derived.Test.YtmenehnfgenlpaaPAx13
namespace Go.Proofs.Ytmenehnfgenlpaa.PA
open Go.RowKit Go.Proofs.YtmenehnfgenlpaaW.PrintWords Go.Proofs.YtmenehnfgenlpaaW.PrintLast Go.Proofs.YtmenehnfgenlpaaW.PrintMore
set_option linter.unusedVariables false
set_option linter.unusedSimpArgs false
theorem wsm {i : Int} (h0 : -1000000000000000000 ≤ i) (h : i ≤ 1000000000000000000) : wrap64 i = i := by unfold wrap64; omega
theorem Ev.k {α : Type} {x : Option α} {r : α} (h : x = some r) : Ev (fun _ => x) r := ⟨0, fun _ _ => h⟩
theorem Ev.ite {α : Type} {c : Prop} [Decidable c] {g f : Nat → Option α} {r : α} (h1 : c → Ev g r) (h2 : ¬ c → Ev f r) : Ev (fun k => if c then g k else f k) r := by
  by_cases h : c
  · exact (h1 h).congr (fun k => if_pos h)
  · exact (h2 h).congr (fun k => if_neg h)
theorem Ev.yes {α : Type} {c : Prop} [Decidable c] {g f : Nat → Option α} {r : α} (h : c) (h1 : Ev g r) : Ev (fun k => if c then g k else f k) r := h1.congr (fun k => if_pos h)
theorem Ev.no {α : Type} {c : Prop} [Decidable c] {g f : Nat → Option α} {r : α} (h : ¬ c) (h1 : Ev f r) : Ev (fun k => if c then g k else f k) r := h1.congr (fun k => if_neg h)
theorem rd_at (l : List Int) (j : Nat) (h : j < l.length) : rd l (j : Int) = l[j] := by simp [rd, List.getD_eq_getElem?_getD, h]
theorem rd_drop (l : List Int) (j : Nat) (h : j < l.length) : l.drop j = rd l (j : Int) :: l.drop (j + 1) := by rw [rd_at l j h, List.drop_eq_getElem_cons h]
def rootsT (p : Int) : List Int := if p = 7 then [3, 5, 6] else if p = 13 then [4, 10, 12] else if p = 19 then [8, 12, 18] else if p = 31 then [6, 26, 30] else []
theorem Z68 {p : Int} (h : primeB p = false) : rootsT p = [] := by
  have : ¬ (p = 7 ∨ p = 11 ∨ p = 13 ∨ p = 17 ∨ p = 19 ∨ p = 23 ∨ p = 29 ∨ p = 31) := of_decide_eq_false h
  unfold rootsT
  rw [if_neg (by omega), if_neg (by omega), if_neg (by omega), if_neg (by omega)]
theorem Z50 (p : Int) : rootsT p = [] ∨ (p = 7 ∨ p = 13 ∨ p = 19 ∨ p = 31) := by
  unfold rootsT
  by_cases h1 : p = 7
  · exact .inr (.inl h1)
  by_cases h2 : p = 13
  · exact .inr (.inr (.inl h2))
  by_cases h3 : p = 19
  · exact .inr (.inr (.inr (.inl h3)))
  by_cases h4 : p = 31
  · exact .inr (.inr (.inr (.inr h4)))
  · rw [if_neg h1, if_neg h2, if_neg h3, if_neg h4]; exact .inl rfl
theorem Z74 (p : Int) : spec_PrimeIn.f p = some (primeB p) := by
  unfold spec_PrimeIn.f primeB
  repeat' split
  all_goals first | (subst_vars; rfl) | (congr 1; symm; rw [decide_eq_true_iff]; omega) | (congr 1; symm; rw [decide_eq_false_iff_not]; omega)
theorem Z12 {p : Int} (h : primeB p = true) : p = 7 ∨ p = 11 ∨ p = 13 ∨ p = 17 ∨ p = 19 ∨ p = 23 ∨ p = 29 ∨ p = 31 := of_decide_eq_true h
theorem isPrime_ev (p : Int) : Ev (fun k => impl_isPrime.f k p) (primeB p) := Ev.of (impl_isPrime.mono p) (isPrime_f p)
def numsB (p : Int) (l : List Int) (n : Nat) : Bool := primeB p && decide (l.length = n) && l.all fun x => decide (0 ≤ x) && decide (x < p)
theorem Z0 {p : Int} {l : List Int} {n : Nat} (h : numsB p l n = true) : primeB p = true ∧ l.length = n ∧ ∀ x ∈ l, 0 ≤ x ∧ x < p := by
  unfold numsB at h
  rw [Bool.and_eq_true, Bool.and_eq_true] at h
  refine ⟨h.1.1, of_decide_eq_true h.1.2, fun x hx => ?_⟩
  have := List.all_eq_true.1 h.2 x hx
  rw [Bool.and_eq_true] at this
  exact ⟨of_decide_eq_true this.1, of_decide_eq_true this.2⟩
theorem Z85 {p : Int} {l : List Int} {n : Nat} (h1 : primeB p = true) (h2 : l.length = n) (h3 : ∀ x ∈ l, 0 ≤ x ∧ x < p) : numsB p l n = true := by
  unfold numsB
  rw [h1, decide_eq_true h2, Bool.true_and, Bool.true_and, List.all_eq_true]
  intro x hx
  rw [decide_eq_true (h3 x hx).1, decide_eq_true (h3 x hx).2]; rfl
theorem Z1 {p : Int} (h : primeB p = true) : 7 ≤ p ∧ p ≤ 31 := by have := Z12 h; omega
def invP (p x : Int) : Int := (spec_l4Turned.f 40 p x).getD 0
theorem invP_table : ∀ p ∈ ([7, 11, 13, 17, 19, 23, 29, 31] : List Int), ∀ x ∈ List.range 31, (x : Int) < p → spec_l4Turned.f 40 p (x : Int) = some (invP p (x : Int)) ∧ 0 ≤ invP p (x : Int) ∧ invP p (x : Int) < p ∧ ((x : Int) ≠ 0 → ((x : Int) * invP p (x : Int)) % p = 1) ∧ ((x : Int) = 0 → invP p (x : Int) = 0) := by decide +kernel
theorem Z15 {p : Int} (hp : primeB p = true) {x : Int} (h0 : 0 ≤ x) (h1 : x < p) : spec_l4Turned.f 40 p x = some (invP p x) ∧ 0 ≤ invP p x ∧ invP p x < p ∧ (x ≠ 0 → (x * invP p x) % p = 1) ∧ (x = 0 → invP p x = 0) := by
  obtain ⟨y, rfl⟩ := Int.eq_ofNat_of_zero_le h0
  have hb := Z1 hp
  refine invP_table p ?_ y (List.mem_range.2 (by omega)) h1
  have := Z12 hp
  simpa using this
theorem turned_ev {p : Int} (hp : primeB p = true) {x : Int} (h0 : 0 ≤ x) (h1 : x < p) : Ev (fun k => spec_l4Turned.f k p x) (invP p x) := Ev.of (spec_l4Turned.mono p x) (Z15 hp h0 h1).1
theorem invP_ne {p : Int} (hp : primeB p = true) {x : Int} (h0 : 0 ≤ x) (h1 : x < p) (hx : x ≠ 0) : invP p x ≠ 0 := by
  intro e
  have := (Z15 hp h0 h1).2.2.2.1 hx
  rw [e] at this
  simp at this
def lessP (p t : Int) (h r : List Int) : List Int := List.zipWith (fun x y => (x - t * y) % p) r h
def scaleP (p b : Int) (r : List Int) : List Int := r.map fun x => x * b % p
def redP (p : Int) : Nat → Nat → List (List Int) → List (List Int) → List (List Int)
  | 0, _, _, O => O
  | d + 1, c, L, O =>
    match L.findIdx? (fun row => rd row (c : Int) != 0) with
    | none => redP p d (c + 1) L O
    | some i => redP p d (c + 1) ((L.eraseIdx i).map fun r => lessP p (rd r (c : Int)) (scaleP p (invP p (rd (L.getD i []) (c : Int))) (L.getD i [])) r) ((O.map fun r => lessP p (rd r (c : Int)) (scaleP p (invP p (rd (L.getD i []) (c : Int))) (L.getD i [])) r) ++ [scaleP p (invP p (rd (L.getD i []) (c : Int))) (L.getD i [])])
def headsP (p : Int) : Nat → Nat → List (List Int) → List Int → List Int
  | 0, _, _, H => H
  | d + 1, c, L, H =>
    match L.findIdx? (fun row => rd row (c : Int) != 0) with
    | none => headsP p d (c + 1) L H
    | some i => headsP p d (c + 1) ((L.eraseIdx i).map fun r => lessP p (rd r (c : Int)) (scaleP p (invP p (rd (L.getD i []) (c : Int))) (L.getD i [])) r) (H ++ [(c : Int)])
def okR (p : Int) (w : Nat) (L : List (List Int)) : Prop := ∀ r ∈ L, r.length = w ∧ ∀ x ∈ r, 0 ≤ x ∧ x < p
theorem okR_nil (p : Int) (w : Nat) : okR p w [] := fun _ h => absurd h (by simp)
theorem Z9 {p : Int} {w : Nat} {r : List Int} {L : List (List Int)} (h1 : r.length = w ∧ ∀ x ∈ r, 0 ≤ x ∧ x < p) (h2 : okR p w L) : okR p w (r :: L) := fun x hx => by
  rcases List.mem_cons.1 hx with rfl | hx
  · exact h1
  · exact h2 x hx
theorem okR_app {p : Int} {w : Nat} {L M : List (List Int)} (h1 : okR p w L) (h2 : okR p w M) : okR p w (L ++ M) := fun x hx => by
  rcases List.mem_append.1 hx with hx | hx
  · exact h1 x hx
  · exact h2 x hx
theorem less_ok {p t : Int} {w : Nat} {h r : List Int} (hp : 0 < p) (hh : h.length = w) (hr : r.length = w) : (lessP p t h r).length = w ∧ ∀ x ∈ lessP p t h r, 0 ≤ x ∧ x < p := by
  refine ⟨by simp [lessP, hh, hr], fun x hx => ?_⟩
  rw [lessP, List.mem_iff_getElem] at hx
  obtain ⟨i, hi, rfl⟩ := hx
  rw [List.getElem_zipWith]
  exact ⟨Int.emod_nonneg _ (by omega), Int.emod_lt_of_pos _ hp⟩
theorem Z30 {p b : Int} {w : Nat} {r : List Int} (hp : 0 < p) (hr : r.length = w) : (scaleP p b r).length = w ∧ ∀ x ∈ scaleP p b r, 0 ≤ x ∧ x < p := by
  refine ⟨by simp [scaleP, hr], fun x hx => ?_⟩
  obtain ⟨y, _, rfl⟩ := List.mem_map.1 hx
  exact ⟨Int.emod_nonneg _ (by omega), Int.emod_lt_of_pos _ hp⟩
theorem Z7 {L : List (List Int)} {i : Nat} (h : i < L.length) : L.getD i [] ∈ L := by
  rw [List.getD_eq_getElem?_getD, List.getElem?_eq_getElem h]; exact List.getElem_mem h
theorem Z22 {p : Int} {w : Nat} {L : List (List Int)} {h : List Int} (t : List Int → Int) (hp : 0 < p) (hh : h.length = w) (hL : okR p w L) : okR p w (L.map fun r => lessP p (t r) h r) := fun x hx => by
  obtain ⟨r, hr, rfl⟩ := List.mem_map.1 hx
  exact less_ok hp hh (hL r hr).1
theorem Z26 {p : Int} {w : Nat} {L : List (List Int)} (i : Nat) (hL : okR p w L) : okR p w (L.eraseIdx i) := fun r hr => hL r (List.mem_of_mem_eraseIdx hr)
theorem find_lt {L : List (List Int)} {P : List Int → Bool} {i : Nat} (h : L.findIdx? P = some i) : i < L.length ∧ P (L.getD i []) = true := by
  rw [List.findIdx?_eq_some_iff_getElem] at h
  obtain ⟨hi, hp, _⟩ := h
  exact ⟨hi, by rw [List.getD_eq_getElem?_getD, List.getElem?_eq_getElem hi]; exact hp⟩
theorem ok_rd {p : Int} {w : Nat} {r : List Int} (h : r.length = w ∧ ∀ x ∈ r, 0 ≤ x ∧ x < p) (j : Nat) (hj : j < w) : 0 ≤ rd r (j : Int) ∧ rd r (j : Int) < p := by
  rw [rd_at r j (by omega)]; exact h.2 _ (List.getElem_mem _)
theorem rd_less {p t : Int} {h r : List Int} (j : Nat) (h1 : j < r.length) (h2 : j < h.length) : rd (lessP p t h r) (j : Int) = (rd r (j : Int) - t * rd h (j : Int)) % p := by
  rw [rd_at _ j (by simp [lessP]; omega), rd_at _ j h1, rd_at _ j h2]; simp [lessP]
theorem rd_scale {p b : Int} {r : List Int} (j : Nat) (h1 : j < r.length) : rd (scaleP p b r) (j : Int) = rd r (j : Int) * b % p := by
  rw [rd_at _ j (by simp [scaleP]; omega), rd_at _ j h1]; simp [scaleP]
def headP (l : List Int) : Int := (l.find? (fun x => x != 0)).getD 0
def rowP (p : Int) (l : List Int) : List Int := l.map fun x => x * invP p (headP l) % p
theorem Z47 (x : Int) (l : List Int) : headP (x :: l) = if x = 0 then headP l else x := by
  unfold headP
  by_cases h : x = 0
  · simp [h]
  · simp [h]
theorem mul30 {p x y : Int} (hp : p ≤ 31) (h0 : 0 ≤ x) (h1 : x < p) (h2 : 0 ≤ y) (h3 : y < p) : 0 ≤ x * y ∧ x * y ≤ 900 := by
  have h := Int.mul_le_mul (show x ≤ 30 by omega) (show y ≤ 30 by omega) h2 (by omega)
  exact ⟨Int.mul_nonneg h0 h2, by omega⟩
theorem l4Row_l {p : Int} (hp : primeB p = true) (l : List Int) (hr : ∀ x ∈ l, 0 ≤ x ∧ x < p) (hl : l.length ≤ 1000) : ∀ (d i : Nat) (acc : List Int) (n : Int), i + d = l.length → acc.length = i → (n = 0 ∨ 0 ≤ n ∧ n < p) →
    Ev (fun k => spec_l4Row.l0 k p l acc n (i : Int)) (acc ++ (l.drop i).map fun x => x * (if n = 0 then invP p (headP (l.drop i)) else n) % p)
  | 0, i, acc, n, h, ha, hn => by
    refine Ev.step (f := fun _ => some acc) (fun k => ?_) ?_
    · rw [spec_l4Row.l0, if_neg (by omega)]
    · rw [List.drop_eq_nil_of_le (by omega)]; simpa using Ev.now acc
  | d + 1, i, acc, n, h, ha, hn => by
    have hb := Z1 hp
    have hi : i < l.length := by omega
    have hx := hr _ (List.getElem_mem hi)
    rw [← rd_at l i hi] at hx
    rw [rd_drop l i hi]
    by_cases h0 : n = 0
    · have hv := Z15 hp hx.1 hx.2
      have hm := mul30 hb.2 hx.1 hx.2 hv.2.1 hv.2.2.1
      refine Ev.step (f := fun k => (spec_l4Turned.f k p (rd l (i : Int))).bind fun t => spec_l4Row.l0 k p l (acc ++ [Int.tmod (wrap64 ((rd l (i : Int)) * t)) p]) t ((i + 1 : Nat) : Int)) (fun k => ?_) (Ev.bind (turned_ev hp hx.1 hx.2) ?_)
      · rw [spec_l4Row.l0, if_pos (by omega), if_pos h0, if_pos (by omega)]
        congr 1
        funext t
        rw [if_neg (by omega), if_pos (by omega), wsm (i := (i : Int) + 1) (by omega) (by omega)]
        rfl
      · have ih := l4Row_l hp l hr hl d (i + 1) (acc ++ [Int.tmod (wrap64 ((rd l (i : Int)) * invP p (rd l (i : Int)))) p]) (invP p (rd l (i : Int))) (by omega) (by simp [ha]) (.inr ⟨hv.2.1, hv.2.2.1⟩)
        rw [wsm (by omega) (by omega), Int.tmod_eq_emod_of_nonneg hm.1] at ih ⊢
        rw [List.append_assoc] at ih
        rw [Z47, if_pos h0]
        by_cases hz : rd l (i : Int) = 0
        · rw [if_pos hz]
          rw [if_pos (hv.2.2.2.2 hz)] at ih
          simp only [hz, Int.zero_mul, List.map_cons] at ih ⊢
          exact ih
        · rw [if_neg hz]
          rw [if_neg (invP_ne hp hx.1 hx.2 hz)] at ih
          simpa using ih
    · have hn' : 0 ≤ n ∧ n < p := by rcases hn with h | h; exact absurd h h0; exact h
      have hm := mul30 hb.2 hx.1 hx.2 hn'.1 hn'.2
      refine Ev.step (f := fun k => spec_l4Row.l0 k p l (acc ++ [Int.tmod (wrap64 ((rd l (i : Int)) * n)) p]) n ((i + 1 : Nat) : Int)) (fun k => ?_) ?_
      · rw [spec_l4Row.l0, if_pos (by omega), if_neg h0, if_pos (by omega), if_neg (by omega), if_pos (by omega), wsm (i := (i : Int) + 1) (by omega) (by omega)]
        rfl
      · have ih := l4Row_l hp l hr hl d (i + 1) (acc ++ [Int.tmod (wrap64 ((rd l (i : Int)) * n)) p]) n (by omega) (by simp [ha]) hn
        rw [wsm (by omega) (by omega), Int.tmod_eq_emod_of_nonneg hm.1] at ih ⊢
        rw [if_neg h0] at ih ⊢
        simpa using ih
theorem l4Row_ev {p : Int} (hp : primeB p = true) (l : List Int) (hr : ∀ x ∈ l, 0 ≤ x ∧ x < p) (hl : l.length ≤ 1000) : Ev (fun k => spec_l4Row.f k p l) (rowP p l) := by
  have := l4Row_l hp l hr hl l.length 0 [] 0 (by omega) rfl (.inl rfl)
  unfold spec_l4Row.f
  simpa [rowP] using this
theorem Z88 : ∀ p ∈ ([7, 11, 13, 17, 19, 23, 29, 31] : List Int), ∀ x ∈ List.range 31, (x : Int) < p → (x : Int) ≠ 0 → impl_inverse.f 40 (x : Int) p = some (invP p (x : Int)) := by decide +kernel
theorem inverse_ev {p : Int} (hp : primeB p = true) {x : Int} (h0 : 0 ≤ x) (h1 : x < p) (hx : x ≠ 0) : Ev (fun k => impl_inverse.f k x p) (invP p x) := by
  have hb := Z1 hp
  refine Ev.of (impl_inverse.mono x p) (k := 40) ?_
  have h2 := Z88 p (by have := Z12 hp; simp; omega) x.toNat (by simp; omega) (by omega) (by omega)
  rwa [show ((x.toNat : Nat) : Int) = x by omega] at h2
theorem tmod_bd {p : Int} (hp : 0 < p) (x : Int) : -p < Int.tmod x p ∧ Int.tmod x p < p := by
  refine ⟨?_, Int.tmod_lt_of_pos x hp⟩
  have h1 := Int.tmod_lt_of_pos (-x) hp
  rw [Int.neg_tmod] at h1
  omega
theorem tmod_emod {p : Int} (x : Int) : (Int.tmod x p + p) % p = x % p := by
  have h := Int.mul_tdiv_add_tmod x p
  have e : x = Int.tmod x p + p * x.tdiv p := by omega
  rw [Int.add_emod_right]
  conv => rhs; rw [e, Int.add_mul_emod_self_left]
theorem Z18 {x p : Int} (hp : 7 ≤ p ∧ p ≤ 31) (h0 : -1000000000 ≤ x) (h1 : x ≤ 1000000000) : modV p (wrap64 x) = x % p := by
  rw [wsm (by omega) (by omega), modV]
  have hb := tmod_bd (p := p) (by omega) x
  rw [wsm (by omega) (by omega), Int.tmod_eq_emod_of_nonneg (by omega), tmod_emod]
theorem Z61 {p t : Int} (hp : 7 ≤ p ∧ p ≤ 31) (ht : 0 ≤ t ∧ t < p) (h : List Int) (hh : ∀ x ∈ h, 0 ≤ x ∧ x < p) : ∀ (r : List Int) (i : Nat), (∀ x ∈ r, 0 ≤ x ∧ x < p) → i + r.length = h.length → lessFrom p t h i r = lessP p t (h.drop i) r
  | [], _, _, _ => by simp [lessFrom, lessP]
  | x :: r, i, hr, hl => by
    have hx := hr x (by simp)
    simp only [List.length_cons] at hl
    have hy : 0 ≤ rd h (i : Int) ∧ rd h (i : Int) < p := by rw [rd_at h i (by omega)]; exact hh _ (List.getElem_mem _)
    have hm := mul30 hp.2 ht.1 ht.2 hy.1 hy.2
    rw [rd_drop h i (by omega), lessFrom, Z61 hp ht h hh r (i + 1) (fun z hz => hr z (by simp [hz])) (by omega), wsm (i := t * rd h (i : Int)) (by omega) (by omega), Z18 hp (by omega) (by omega)]
    simp [lessP]
theorem lessRow_eq {p : Int} {w : Nat} (hp : 7 ≤ p ∧ p ≤ 31) (c : Nat) (hc : c < w) {h r : List Int} (hh : h.length = w ∧ ∀ x ∈ h, 0 ≤ x ∧ x < p) (hr : r.length = w ∧ ∀ x ∈ r, 0 ≤ x ∧ x < p) : lessRow p c h r = lessP p (rd r (c : Int)) h r := by
  rw [lessRow, Z61 hp (ok_rd hr c hc) h hh.2 r 0 hr.2 (by omega), List.drop_zero]
theorem scaleRow_eq {p b : Int} {w : Nat} (hp : 7 ≤ p ∧ p ≤ 31) (hb : 0 ≤ b ∧ b < p) {r : List Int} (hr : r.length = w ∧ ∀ x ∈ r, 0 ≤ x ∧ x < p) : scaleRow p b r = scaleP p b r := by
  rw [scaleRow, scaleP]
  refine List.map_congr_left fun x hx => ?_
  have h1 := hr.2 x hx
  have hm := mul30 hp.2 h1.1 h1.2 hb.1 hb.2
  rw [wsm (by omega) (by omega), Int.tmod_eq_emod_of_nonneg hm.1]
theorem Z42 {p : Int} (hp : primeB p = true) {w : Nat} : ∀ (d c : Nat) (L O : List (List Int)), c + d = w → okR p w L → okR p w O → Ev (fun k => redCols k p d c L O) (redP p d c L O)
  | 0, _, _, O, _, _, _ => Ev.k rfl
  | d + 1, c, L, O, hw, hL, hO => by
    have hb := Z1 hp
    unfold redCols redP
    cases hf : L.findIdx? (fun row => rd row (c : Int) != 0) with
    | none => exact Z42 hp d (c + 1) L O (by omega) hL hO
    | some i =>
      simp only
      obtain ⟨hi, hne⟩ := find_lt hf
      have hx := hL _ (Z7 hi)
      have hxr := ok_rd hx c (by omega)
      have hne' : rd (L.getD i []) (c : Int) ≠ 0 := by simpa using hne
      have hinv := Z15 hp hxr.1 hxr.2
      refine Ev.bind (inverse_ev hp hxr.1 hxr.2 hne') ?_
      have hs := Z30 (p := p) (b := invP p (rd (L.getD i []) (c : Int))) (by omega) hx.1
      rw [scaleRow_eq hb ⟨hinv.2.1, hinv.2.2.1⟩ hx]
      have e1 : ∀ M : List (List Int), okR p w M → M.map (lessRow p c (scaleP p (invP p (rd (L.getD i []) (c : Int))) (L.getD i []))) = M.map fun r => lessP p (rd r (c : Int)) (scaleP p (invP p (rd (L.getD i []) (c : Int))) (L.getD i [])) r :=
        fun M hM => List.map_congr_left fun r hr => lessRow_eq hb c (by omega) hs (hM r hr)
      rw [e1 _ (Z26 i hL), e1 _ hO]
      exact Z42 hp d (c + 1) _ _ (by omega) (Z22 _ (by omega) hs.1 (Z26 i hL)) (okR_app (Z22 _ (by omega) hs.1 hO) (Z9 hs (okR_nil p w)))
theorem Z41 {p : Int} (hp : primeB p = true) {w : Nat} (L : List (List Int)) (hw : w < 1000000) (hl : L.length < 1000000) (hL : ∀ r ∈ L, r.length = w) : Ev (fun k => impl_reduced.f k p L) (redP p w 0 (L.map fun r => r.map (modV p)) []) := by
  have hb := Z1 hp
  have hok : okR p w (L.map fun r => r.map (modV p)) := fun x hx => by
    obtain ⟨r, hr, rfl⟩ := List.mem_map.1 hx
    refine ⟨by rw [List.length_map, hL r hr], fun y hy => ?_⟩
    obtain ⟨z, _, rfl⟩ := List.mem_map.1 hy
    have h2 := tmod_bd (p := p) (by omega) z
    rw [modV, wsm (by omega) (by omega), Int.tmod_eq_emod_of_nonneg (by omega)]
    exact ⟨Int.emod_nonneg _ (by omega), Int.emod_lt_of_pos _ (by omega)⟩
  cases L with
  | nil =>
    have e : ∀ d c, redP p d c [] [] = [] := fun d => by
      induction d with
      | zero => intro c; rfl
      | succ d ih => intro c; rw [redP]; exact ih (c + 1)
    rw [List.map_nil, e]
    refine Ev.k (α := List (List Int)) (x := some []) rfl |>.congr fun k => ?_
    rw [impl_reduced.f, if_neg (by omega), if_pos ⟨by simp, by simp, by simp⟩]
    simp [redCols]
  | cons r L =>
    have hr := hL r (by simp)
    refine (Z42 hp w 0 _ [] (by omega) hok (okR_nil p w)).congr fun k => ?_
    rw [impl_reduced.f, if_neg (by omega), if_pos ⟨hl, by simpa [hr] using hw, by simpa [hr] using hL⟩]
    simp [hr]
theorem modV_self {p x : Int} (hp : primeB p = true) (h0 : 0 ≤ x) (h1 : x < p) : modV p x = x := by
  have hb := Z1 hp
  rw [modV, Int.tmod_eq_of_lt h0 h1, wsm (by omega) (by omega), Int.tmod_eq_emod_of_nonneg (by omega), Int.add_emod_right, Int.emod_eq_of_lt h0 h1]
theorem Z40 {p : Int} (hp : primeB p = true) {w : Nat} (L : List (List Int)) (hw : w < 1000000) (hl : L.length < 1000000) (hL : okR p w L) : Ev (fun k => impl_reduced.f k p L) (redP p w 0 L []) := by
  have h := Z41 hp L hw hl (fun r hr => (hL r hr).1)
  have e : (L.map fun r => r.map (modV p)) = L := by
    rw [List.map_congr_left (g := id)]
    · simp
    · intro r hr
      rw [List.map_congr_left (g := id)]
      · simp
      · intro x hx; have := (hL r hr).2 x hx; exact modV_self hp this.1 this.2
  rwa [e] at h
theorem l4Mod_eq (p x : Int) (hp : p ≠ 0) : spec_l4Mod.f p x = some (modV p x) := by rw [spec_l4Mod.f, if_neg hp]; rfl
theorem l4Less_l {p t : Int} {w : Nat} (hp : 7 ≤ p ∧ p ≤ 31) (ht : 0 ≤ t ∧ t < p) {h r : List Int} (hh : h.length = w ∧ ∀ x ∈ h, 0 ≤ x ∧ x < p) (hr : r.length = w ∧ ∀ x ∈ r, 0 ≤ x ∧ x < p) (hw : w ≤ 1000) : ∀ (d i : Nat), i + d = w → Ev (fun k => spec_l4Less.l0 k p r t h ((lessP p t h r).take i) (i : Int)) (lessP p t h r)
  | 0, i, he => by
    have hl := (less_ok (p := p) (t := t) (by omega) hh.1 hr.1).1
    refine Ev.step (f := fun _ => some (lessP p t h r)) (fun k => ?_) (Ev.now _)
    rw [spec_l4Less.l0, if_neg (by omega), List.take_of_length_le (by omega)]
  | d + 1, i, he => by
    have hl := (less_ok (p := p) (t := t) (by omega) hh.1 hr.1).1
    have hx := ok_rd hr i (by omega)
    have hy := ok_rd hh i (by omega)
    have hm := mul30 hp.2 ht.1 ht.2 hy.1 hy.2
    refine Ev.step (f := fun k => spec_l4Less.l0 k p r t h ((lessP p t h r).take (i + 1)) ((i + 1 : Nat) : Int)) (fun k => ?_) (l4Less_l hp ht hh hr hw d (i + 1) (by omega))
    rw [spec_l4Less.l0, if_pos (by omega), if_pos (by omega), if_pos (by omega), l4Mod_eq _ _ (by omega), Option.bind_some, if_pos (by simp; omega), wsm (i := (i : Int) + 1) (by omega) (by omega), wsm (i := t * rd h (i : Int)) (by omega) (by omega), Z18 hp (by omega) (by omega)]
    have e : (lessP p t h r).take (i + 1) = (lessP p t h r).take i ++ [(rd r (i : Int) - t * rd h (i : Int)) % p] := by
      rw [List.take_add_one, List.getElem?_eq_getElem (by omega), ← rd_at (lessP p t h r) i (by omega), rd_less i (by omega) (by omega)]
      rfl
    rw [e]
    rfl
theorem l4Less_ev {p t : Int} {w : Nat} (hp : 7 ≤ p ∧ p ≤ 31) (ht : 0 ≤ t ∧ t < p) {h r : List Int} (hh : h.length = w ∧ ∀ x ∈ h, 0 ≤ x ∧ x < p) (hr : r.length = w ∧ ∀ x ∈ r, 0 ≤ x ∧ x < p) (hw : w ≤ 1000) : Ev (fun k => spec_l4Less.f k p r t h) (lessP p t h r) := by
  unfold spec_l4Less.f
  simpa using l4Less_l hp ht hh hr hw w 0 (by omega)
theorem rdL_at (L : List (List Int)) (i : Nat) : rd_L1 L (i : Int) = L.getD i [] := by simp [rd_L1]
theorem headP_at : ∀ (l : List Int) (c : Nat), c < l.length → (∀ j : Nat, j < c → rd l (j : Int) = 0) → rd l (c : Int) ≠ 0 → headP l = rd l (c : Int)
  | [], c, h, _, _ => absurd h (by simp)
  | x :: l, 0, _, _, hn => by
    have e : rd (x :: l) ((0 : Nat) : Int) = x := by simp [rd]
    rw [e] at hn ⊢
    rw [Z47, if_neg hn]
  | x :: l, c + 1, h, hz, hn => by
    have e : ∀ j : Nat, rd (x :: l) ((j + 1 : Nat) : Int) = rd l (j : Int) := fun j => by simp [rd]
    have h0 : x = 0 := by have := hz 0 (by omega); simpa [rd] using this
    rw [Z47, if_pos h0, e]
    exact headP_at l c (by simpa using h) (fun j hj => by rw [← e]; exact hz (j + 1) (by omega)) (by rw [← e]; exact hn)
theorem rowP_at {p : Int} {l : List Int} {c : Nat} (hc : c < l.length) (hz : ∀ j : Nat, j < c → rd l (j : Int) = 0) (hn : rd l (c : Int) ≠ 0) : rowP p l = scaleP p (invP p (rd l (c : Int))) l := by
  rw [rowP, headP_at l c hc hz hn, scaleP]
def zeroTo (c : Nat) (L : List (List Int)) : Prop := ∀ r ∈ L, ∀ j : Nat, j < c → rd r (j : Int) = 0
theorem Z54 {p : Int} (hp : primeB p = true) {w c : Nat} (hc : c < w) {L : List (List Int)} (hL : okR p w L) (hz : zeroTo c L) {i : Nat} (hf : L.findIdx? (fun row => rd row (c : Int) != 0) = some i) :
    zeroTo (c + 1) ((L.eraseIdx i).map fun r => lessP p (rd r (c : Int)) (scaleP p (invP p (rd (L.getD i []) (c : Int))) (L.getD i [])) r) := by
  intro r hr j hj
  obtain ⟨q, hq, rfl⟩ := List.mem_map.1 hr
  have hq' := List.mem_of_mem_eraseIdx hq
  obtain ⟨hi, hne⟩ := find_lt hf
  have hx := hL _ (Z7 hi)
  have hxr := ok_rd hx c hc
  have hne' : rd (L.getD i []) (c : Int) ≠ 0 := by simpa using hne
  have hql := (hL q hq').1
  rw [rd_less j (by omega) (by rw [(Z30 (by have := Z1 hp; omega) hx.1).1]; omega), rd_scale j (by omega)]
  by_cases e : j = c
  · subst e
    rw [(Z15 hp hxr.1 hxr.2).2.2.2.1 hne', Int.mul_one, Int.sub_self, Int.zero_emod]
  · rw [hz q hq' j (by omega), hz _ (Z7 hi) j (by omega)]
    simp
theorem Z53 {c : Nat} {L : List (List Int)} (hz : zeroTo c L) (hf : L.findIdx? (fun row => rd row (c : Int) != 0) = none) : zeroTo (c + 1) L := by
  intro r hr j hj
  by_cases e : j = c
  · subst e
    have := List.findIdx?_eq_none_iff.1 hf r hr
    simpa using this
  · exact hz r hr j (by omega)
theorem search_ev {p : Int} {w : Nat} {rows out : List (List Int)} {heads : List Int} {c : Nat} {R : List (List Int) × List Int} (hc : c < w) (hw : w ≤ 1000) (hlen : rows.length < 1000000) (hr : ∀ r ∈ rows, r.length = w)
    (hnone : rows.findIdx? (fun row => rd row (c : Int) != 0) = none → Ev (fun k => spec_l4Reduce.l0 k p rows (w : Int) out heads ((c + 1 : Nat) : Int)) R)
    (hsome : ∀ i, rows.findIdx? (fun row => rd row (c : Int) != 0) = some i → Ev (fun k => (spec_l4Row.f k p (rows.getD i [])).bind fun t => spec_l4Reduce.l2 k p rows (w : Int) out heads (c : Int) (i : Int) t [] 0) R) :
    ∀ (d i : Nat), i + d = rows.length → (rows.take i).findIdx? (fun row => rd row (c : Int) != 0) = none → Ev (fun k => spec_l4Reduce.l1 k p rows (w : Int) out heads (c : Int) (-1) (i : Int)) R
  | 0, i, he, hf => by
    have hf' : rows.findIdx? (fun row => rd row (c : Int) != 0) = none := by rwa [List.take_of_length_le (by omega)] at hf
    refine Ev.step (f := fun k => spec_l4Reduce.j2 k p rows (w : Int) out heads (c : Int) (-1) (i : Int) false) (fun k => ?_) ?_
    · rw [spec_l4Reduce.l1, if_neg (by omega)]
    · refine Ev.step (f := fun k => spec_l4Reduce.l0 k p rows (w : Int) out heads ((c + 1 : Nat) : Int)) (fun k => ?_) (hnone hf')
      rw [spec_l4Reduce.j2, if_neg (by simp), if_pos (by omega), wsm (by omega) (by omega)]
      rfl
  | d + 1, i, he, hf => by
    have hi : i < rows.length := by omega
    have hrl : (rows.getD i []).length = w := hr _ (Z7 hi)
    refine Ev.step (f := fun k => spec_l4Reduce.j2 k p rows (w : Int) out heads (c : Int) (-1) (i : Int) true) (fun k => ?_) ?_
    · rw [spec_l4Reduce.l1, if_pos (by omega)]; rfl
    · by_cases hz : rd (rows.getD i []) (c : Int) = 0
      · refine Ev.step (f := fun k => spec_l4Reduce.l1 k p rows (w : Int) out heads (c : Int) (-1) ((i + 1 : Nat) : Int)) (fun k => ?_) (search_ev hc hw hlen hr hnone hsome d (i + 1) (by omega) ?_)
        · rw [spec_l4Reduce.j2, if_pos rfl, if_pos (by omega), if_pos (by omega), if_pos (by omega), rdL_at, if_pos (by omega), if_pos hz, wsm (by omega) (by omega)]
          rfl
        · rw [List.take_add_one, List.findIdx?_append, hf, List.getElem?_eq_getElem hi]
          rw [List.getD_eq_getElem?_getD, List.getElem?_eq_getElem hi] at hz
          simp only [Option.getD_some] at hz
          simp [List.findIdx?_cons, hz]
      · have hfi : rows.findIdx? (fun row => rd row (c : Int) != 0) = some i := by
          rw [List.getD_eq_getElem?_getD, List.getElem?_eq_getElem hi] at hz
          simp only [Option.getD_some] at hz
          have hsplit : rows = rows.take i ++ rows[i] :: rows.drop (i + 1) := by rw [List.getElem_cons_drop, List.take_append_drop]
          rw [hsplit, List.findIdx?_append, hf]
          have hz' : (rd rows[i] (c : Int) != 0) = true := bne_iff_ne.mpr hz
          rw [List.findIdx?_cons, hz']
          simp only [if_true, Option.map_some, Option.none_or, List.length_take, Nat.zero_add]
          rw [Nat.min_eq_left (by omega)]
        have hs := hsome i hfi
        have hfin : ∀ q : Nat, Ev (fun k => spec_l4Reduce.j2 k p rows (w : Int) out heads (c : Int) (i : Int) (q : Int) false) R := fun q => by
          refine Ev.step (f := fun k => (spec_l4Row.f k p (rows.getD i [])).bind fun t => spec_l4Reduce.l2 k p rows (w : Int) out heads (c : Int) (i : Int) t [] 0) (fun k => ?_) hs
          rw [spec_l4Reduce.j2, if_neg (by simp), if_neg (by omega), if_pos (by omega), if_pos (by omega), rdL_at]
        refine Ev.step (f := fun k => spec_l4Reduce.l1 k p rows (w : Int) out heads (c : Int) (i : Int) ((i + 1 : Nat) : Int)) (fun k => ?_) ?_
        · rw [spec_l4Reduce.j2, if_pos rfl, if_pos (by omega), if_pos (by omega), if_pos (by omega), rdL_at, if_pos (by omega), if_neg hz, wsm (by omega) (by omega)]
          rfl
        · refine Ev.step (f := fun k => spec_l4Reduce.j2 k p rows (w : Int) out heads (c : Int) (i : Int) ((i + 1 : Nat) : Int) false) (fun k => ?_) (hfin (i + 1))
          rw [spec_l4Reduce.l1]
          split
          · rw [decide_eq_false (by omega)]
          · rfl
theorem rest_ev {p : Int} {w : Nat} (hp : 7 ≤ p ∧ p ≤ 31) {rows out : List (List Int)} {heads : List Int} {c at_ : Nat} {row : List Int} {R : List (List Int) × List Int} (hc : c < w) (hw : w ≤ 1000) (hlen : rows.length < 1000000) (hr : okR p w rows) (hrow : row.length = w ∧ ∀ x ∈ row, 0 ≤ x ∧ x < p) (hat : at_ < rows.length)
    (hend : Ev (fun k => spec_l4Reduce.l3 k p ((rows.eraseIdx at_).map fun r => lessP p (rd r (c : Int)) row r) (w : Int) out heads (c : Int) row 0) R) :
    ∀ (d i : Nat), i + d = rows.length → Ev (fun k => spec_l4Reduce.l2 k p rows (w : Int) out heads (c : Int) (at_ : Int) row (((rows.take i).eraseIdx at_).map fun r => lessP p (rd r (c : Int)) row r) (i : Int)) R
  | 0, i, he => by
    refine Ev.step (f := fun k => spec_l4Reduce.l3 k p ((rows.eraseIdx at_).map fun r => lessP p (rd r (c : Int)) row r) (w : Int) out heads (c : Int) row 0) (fun k => ?_) hend
    rw [spec_l4Reduce.l2, if_neg (by omega), List.take_of_length_le (by omega)]
  | d + 1, i, he => by
    have hi : i < rows.length := by omega
    have ih := rest_ev hp hc hw hlen hr hrow hat hend d (i + 1) (by omega)
    by_cases e : i = at_
    · subst e
      refine Ev.step (f := fun k => spec_l4Reduce.l2 k p rows (w : Int) out heads (c : Int) (i : Int) row (((rows.take (i + 1)).eraseIdx i).map fun r => lessP p (rd r (c : Int)) row r) ((i + 1 : Nat) : Int)) (fun k => ?_) ih
      rw [spec_l4Reduce.l2, if_pos (by omega), if_pos rfl, wsm (by omega) (by omega)]
      have e1 : (rows.take i).eraseIdx i = rows.take i := List.eraseIdx_of_length_le (by rw [List.length_take]; omega)
      have e2 : (rows.take (i + 1)).eraseIdx i = rows.take i := by
        rw [List.take_add_one, List.eraseIdx_append_of_length_le (by rw [List.length_take]; omega)]
        simp [Nat.min_eq_left (Nat.le_of_lt hi), List.getElem?_eq_getElem hi]
      rw [e1, e2]
      rfl
    · have hrow_i := hr _ (Z7 hi)
      have ht := ok_rd hrow_i c hc
      refine Ev.step (f := fun k => (spec_l4Less.f k p (rows.getD i []) (rd (rows.getD i []) (c : Int)) row).bind fun t => if (((rows.take i).eraseIdx at_).map fun r => lessP p (rd r (c : Int)) row r).length < 5864062014805 then spec_l4Reduce.l2 k p rows (w : Int) out heads (c : Int) (at_ : Int) row ((((rows.take i).eraseIdx at_).map fun r => lessP p (rd r (c : Int)) row r) ++ [t]) ((i + 1 : Nat) : Int) else none) (fun k => ?_) ?_
      · rw [spec_l4Reduce.l2, if_pos (by omega), if_neg (by omega), if_pos (by omega), if_pos (by omega), rdL_at, if_pos (by omega), wsm (by omega) (by omega)]
        rfl
      · refine Ev.bind (l4Less_ev hp ht hrow hrow_i hw) (Ev.yes ?_ ?_)
        · rw [List.length_map]
          have h1 := List.length_eraseIdx_le (rows.take i) at_
          have h2 : (rows.take i).length ≤ rows.length := by rw [List.length_take]; omega
          omega
        · have e2 : ((rows.take (i + 1)).eraseIdx at_).map (fun r => lessP p (rd r (c : Int)) row r) = ((rows.take i).eraseIdx at_).map (fun r => lessP p (rd r (c : Int)) row r) ++ [lessP p (rd (rows.getD i []) (c : Int)) row (rows.getD i [])] := by
            have e3 : rows.take (i + 1) = rows.take i ++ [rows.getD i []] := by
              rw [List.take_add_one, List.getElem?_eq_getElem hi, List.getD_eq_getElem?_getD, List.getElem?_eq_getElem hi]; rfl
            by_cases hlt : at_ < i
            · rw [e3, List.eraseIdx_append_of_lt_length (by simp; omega), List.map_append]; rfl
            · rw [List.eraseIdx_of_length_le (by simp; omega), List.eraseIdx_of_length_le (by simp; omega), e3, List.map_append]; rfl
          rw [e2] at ih
          exact ih
theorem done_ev {p : Int} {w : Nat} (hp : 7 ≤ p ∧ p ≤ 31) {rest out : List (List Int)} {heads : List Int} {c : Nat} {row : List Int} {R : List (List Int) × List Int} (hc : c < w) (hw : w ≤ 1000) (hlen : out.length < 1000000) (hh : heads.length < 1000000) (hr : okR p w out) (hrow : row.length = w ∧ ∀ x ∈ row, 0 ≤ x ∧ x < p)
    (hend : Ev (fun k => spec_l4Reduce.l0 k p rest (w : Int) ((out.map fun r => lessP p (rd r (c : Int)) row r) ++ [row]) (heads ++ [(c : Int)]) ((c + 1 : Nat) : Int)) R) :
    ∀ (d i : Nat), i + d = out.length → Ev (fun k => spec_l4Reduce.l3 k p rest (w : Int) ((out.map fun r => lessP p (rd r (c : Int)) row r).take i ++ out.drop i) heads (c : Int) row (i : Int)) R
  | 0, i, he => by
    refine Ev.step (f := fun k => spec_l4Reduce.l0 k p rest (w : Int) ((out.map fun r => lessP p (rd r (c : Int)) row r) ++ [row]) (heads ++ [(c : Int)]) ((c + 1 : Nat) : Int)) (fun k => ?_) hend
    rw [List.drop_eq_nil_of_le (by omega), List.append_nil, List.take_of_length_le (by simp; omega), spec_l4Reduce.l3, if_neg (by simp; omega), if_pos (by simp; omega), if_pos (by omega), wsm (by omega) (by omega)]
    rfl
  | d + 1, i, he => by
    have hi : i < out.length := by omega
    have ih := done_ev hp hc hw hlen hh hr hrow hend d (i + 1) (by omega)
    have hrow_i := hr _ (Z7 hi)
    have ht := ok_rd hrow_i c hc
    have hcur : ((out.map fun r => lessP p (rd r (c : Int)) row r).take i ++ out.drop i).getD i [] = out.getD i [] := by
      simp [List.getD_eq_getElem?_getD, List.getElem?_append_right, Nat.min_eq_left (Nat.le_of_lt hi), hi]
    have hcl : ((out.map fun r => lessP p (rd r (c : Int)) row r).take i ++ out.drop i).length = out.length := by simp; omega
    have hset : ((out.map fun r => lessP p (rd r (c : Int)) row r).take i ++ out.drop i).set i (lessP p (rd (out.getD i []) (c : Int)) row (out.getD i [])) = (out.map fun r => lessP p (rd r (c : Int)) row r).take (i + 1) ++ out.drop (i + 1) :=
      scan_set _ _ _ _ (by simp) hi (by simp [List.getD_eq_getElem?_getD, List.getElem?_eq_getElem hi])
    refine Ev.step (f := fun k => (spec_l4Less.f k p (out.getD i []) (rd (out.getD i []) (c : Int)) row).bind fun t => spec_l4Reduce.l3 k p rest (w : Int) (((out.map fun r => lessP p (rd r (c : Int)) row r).take i ++ out.drop i).set i t) heads (c : Int) row ((i + 1 : Nat) : Int)) (fun k => ?_) ?_
    · rw [spec_l4Reduce.l3, if_pos (by omega), if_pos (by omega), if_pos (by omega), rdL_at, hcur, if_pos (by omega), wsm (by omega) (by omega), Int.toNat_natCast]
      rfl
    · refine Ev.bind (l4Less_ev hp ht hrow hrow_i hw) ?_
      rw [hset]
      exact ih
theorem Z46 {p : Int} (hp : primeB p = true) {w : Nat} (hw : w ≤ 1000) : ∀ (d c : Nat) (L O : List (List Int)) (H : List Int), c + d = w → okR p w L → okR p w O → zeroTo c L → L.length + O.length < 1000000 → H.length = O.length →
    Ev (fun k => spec_l4Reduce.l0 k p L (w : Int) O H (c : Int)) (redP p d c L O, headsP p d c L H)
  | 0, c, L, O, H, hc, _, _, _, _, _ => by
    refine Ev.step (f := fun _ => some (O, H)) (fun k => ?_) (Ev.now _)
    rw [spec_l4Reduce.l0, if_neg (by omega)]
  | d + 1, c, L, O, H, hc, hL, hO, hz, hl, hH => by
    have hb := Z1 hp
    refine Ev.step (f := fun k => spec_l4Reduce.l1 k p L (w : Int) O H (c : Int) (-1) ((0 : Nat) : Int)) (fun k => ?_) ?_
    · rw [spec_l4Reduce.l0, if_pos (by omega)]; rfl
    · refine search_ev (by omega) hw (by omega) (fun r hr => (hL r hr).1) (fun hf => ?_) (fun i hf => ?_) L.length 0 (by omega) rfl
      · have ih := Z46 hp hw d (c + 1) L O H (by omega) hL hO (Z53 hz hf) hl hH
        rw [redP, headsP, hf]
        exact ih
      · obtain ⟨hi, hne⟩ := find_lt hf
        have hx := hL _ (Z7 hi)
        have hne' : rd (L.getD i []) (c : Int) ≠ 0 := by simpa using hne
        have hs := Z30 (p := p) (b := invP p (rd (L.getD i []) (c : Int))) (by omega) hx.1
        have hzn := Z54 hp (by omega) hL hz hf
        have ih := Z46 hp hw d (c + 1) ((L.eraseIdx i).map fun r => lessP p (rd r (c : Int)) (scaleP p (invP p (rd (L.getD i []) (c : Int))) (L.getD i [])) r) ((O.map fun r => lessP p (rd r (c : Int)) (scaleP p (invP p (rd (L.getD i []) (c : Int))) (L.getD i [])) r) ++ [scaleP p (invP p (rd (L.getD i []) (c : Int))) (L.getD i [])]) (H ++ [(c : Int)]) (by omega)
          (Z22 _ (by omega) hs.1 (Z26 i hL)) (okR_app (Z22 _ (by omega) hs.1 hO) (Z9 hs (okR_nil p w))) hzn (by simp [List.length_eraseIdx, hi]; omega) (by simp [hH])
        rw [redP, headsP, hf]
        simp only
        refine Ev.bind (a := scaleP p (invP p (rd (L.getD i []) (c : Int))) (L.getD i [])) ?_ ?_
        · have h1 := l4Row_ev hp (L.getD i []) hx.2 (by omega)
          rwa [rowP_at (by omega) (hz _ (Z7 hi)) hne'] at h1
        · have h2 := done_ev hb (c := c) (heads := H) (out := O) (rest := (L.eraseIdx i).map fun r => lessP p (rd r (c : Int)) (scaleP p (invP p (rd (L.getD i []) (c : Int))) (L.getD i [])) r) (by omega) hw (by omega) (by omega) hO hs ih O.length 0 (by omega)
          have h3 := rest_ev hb (c := c) (by omega) hw (by omega) hL hs hi (by simpa using h2) L.length 0 (by omega)
          simpa using h3
theorem Z24 {p : Int} (hp : primeB p = true) {w : Nat} (hw : w ≤ 1000) (L : List (List Int)) (hL : okR p w L) (hl : L.length < 1000000) : Ev (fun k => spec_l4Reduce.f k p L (w : Int)) (redP p w 0 L [], headsP p w 0 L []) := by
  unfold spec_l4Reduce.f
  exact Z46 hp hw w 0 L [] [] (by omega) hL (okR_nil p w) (fun _ _ j hj => absurd hj (by omega)) (by simpa using hl) rfl
theorem redP_nil (p : Int) : ∀ (d c : Nat) (O : List (List Int)), redP p d c [] O = O
  | 0, _, _ => rfl
  | d + 1, c, O => by rw [redP]; exact redP_nil p d (c + 1) O
def monP (p : Int) (r : List Int) : List Int := if (r.all fun x => x == 0) = true then [] else rowP p r
theorem red_one {p : Int} {w : Nat} {r : List Int} (hw : r.length = w) : ∀ (d c : Nat), c + d = w → (∀ j : Nat, j < c → rd r (j : Int) = 0) → redP p d c [r] [] = if (r.all fun x => x == 0) = true then [] else [rowP p r]
  | 0, c, e, hz => by
    have h0 : (r.all fun x => x == 0) = true := List.all_eq_true.2 fun x hx => by
      obtain ⟨j, hj, rfl⟩ := List.mem_iff_getElem.1 hx
      rw [← rd_at r j hj, hz j (by omega)]; rfl
    rw [if_pos h0, redP]
  | d + 1, c, e, hz => by
    by_cases hc : rd r (c : Int) = 0
    · have ih := red_one hw (p := p) d (c + 1) (by omega) (fun j hj => by
        rcases Nat.lt_succ_iff_lt_or_eq.1 hj with h | h
        · exact hz j h
        · rw [h]; exact hc)
      rw [redP]
      simp only [List.findIdx?_cons, hc]
      exact ih
    · have h1 : ¬ (r.all fun x => x == 0) = true := fun h => by
        have := List.all_eq_true.1 h (r[c]'(by omega)) (List.getElem_mem _)
        rw [← rd_at r c (by omega)] at this
        exact hc (by simpa using this)
      have hb : (rd r (c : Int) != 0) = true := by simpa using hc
      rw [if_neg h1, redP]
      simp only [List.findIdx?_cons, hb]
      simp only [if_true, List.eraseIdx_cons_zero, List.map_nil, List.getD_cons_zero, List.nil_append, redP_nil]
      rw [rowP_at (by omega) hz hc]
theorem monic_ev {p : Int} (hp : primeB p = true) (l : List Int) (hl : l.length < 1000) (hb : ∀ x ∈ l, -1000000 ≤ x ∧ x ≤ 1000000) : Ev (fun k => impl_monic.f k p l) (monP p (l.map fun x => x % p)) := by
  have hpb := Z1 hp
  have e : l.map (modV p) = l.map fun x => x % p := List.map_congr_left fun x hx => by
    have := hb x hx
    have h2 := Z18 (p := p) (x := x) ⟨by omega, by omega⟩ (by omega) (by omega)
    rwa [wsm (by omega) (by omega)] at h2
  unfold impl_monic.f
  refine Ev.bind (Z41 hp (w := l.length) [l] (by omega) (by simp) (by simp)) ?_
  rw [List.map_cons, List.map_nil, e, red_one (p := p) (w := l.length) (by simp) l.length 0 (by omega) (fun j hj => absurd hj (by omega)), monP]
  by_cases hz : ((l.map fun x => x % p).all fun x => x == 0) = true
  · rw [if_pos hz, if_pos hz]; exact Ev.now _
  · rw [if_neg hz, if_neg hz]; exact Ev.now _
def fn (r : List Int) (j : Nat) : Int := rd r (j : Int)
theorem dvd_lin {p x y c : Int} (a b : Int) (hx : p ∣ x) (hy : p ∣ y) (h : c = a * x + b * y) : p ∣ c := by
  rw [h]; exact Int.dvd_add (Int.dvd_mul_of_dvd_right hx) (Int.dvd_mul_of_dvd_right hy)
theorem dvd_one {p x c : Int} (a : Int) (hx : p ∣ x) (h : c = a * x) : p ∣ c := by
  rw [h]; exact Int.dvd_mul_of_dvd_right hx
inductive Sp (p : Int) (w : Nat) (L : List (List Int)) : (Nat → Int) → Prop where
  | zero (v : Nat → Int) : (∀ j, j < w → p ∣ v j) → Sp p w L v
  | add (v u : Nat → Int) (r : List Int) (t : Int) : r ∈ L → Sp p w L u → (∀ j, j < w → p ∣ v j - (u j + t * fn r j)) → Sp p w L v
theorem Sp.congr {p : Int} {w : Nat} {L : List (List Int)} {u v : Nat → Int} (h : Sp p w L u) (he : ∀ j, j < w → p ∣ v j - u j) : Sp p w L v := by
  cases h with
  | zero _ hz => exact .zero v fun j hj => dvd_lin 1 1 (he j hj) (hz j hj) (by omega)
  | add _ u' r t hr hu h2 => exact .add v u' r t hr hu fun j hj => dvd_lin 1 1 (he j hj) (h2 j hj) (by omega)
theorem Sp.sum {p : Int} {w : Nat} {L : List (List Int)} {u v : Nat → Int} (hu : Sp p w L u) (hv : Sp p w L v) : Sp p w L fun j => u j + v j := by
  induction hv with
  | zero v hz => exact hu.congr fun j hj => dvd_one 1 (hz j hj) (by omega)
  | add v u' r t hr _ h2 ih => exact .add _ _ r t hr ih fun j hj => dvd_one 1 (h2 j hj) (by omega)
theorem Sp.scale {p : Int} {w : Nat} {L : List (List Int)} {v : Nat → Int} (s : Int) (hv : Sp p w L v) : Sp p w L fun j => s * v j := by
  induction hv with
  | zero v hz => exact .zero _ fun j hj => dvd_one s (hz j hj) rfl
  | add v u r t hr _ h2 ih => exact .add _ _ r (s * t) hr ih fun j hj => dvd_one s (h2 j hj) (by rw [Int.mul_sub, Int.mul_add, Int.mul_assoc])
theorem Sp.mem {p : Int} {w : Nat} {L : List (List Int)} {r : List Int} (hr : r ∈ L) : Sp p w L (fn r) :=
  .add _ (fun _ => 0) r 1 hr (.zero _ fun _ _ => Int.dvd_zero p) fun j _ => by simp
theorem Sp.sub {p : Int} {w : Nat} {L M : List (List Int)} (h : ∀ r ∈ L, Sp p w M (fn r)) {v : Nat → Int} (hv : Sp p w L v) : Sp p w M v := by
  induction hv with
  | zero v hz => exact .zero v hz
  | add v u r t hr _ h2 ih => exact (ih.sum ((h r hr).scale t)).congr h2
structure Rref (p : Int) (w : Nat) (P : List (Nat × List Int)) : Prop where
  lt : ∀ x ∈ P, x.1 < w
  ok : ∀ x ∈ P, x.2.length = w ∧ ∀ y ∈ x.2, 0 ≤ y ∧ y < p
  one : ∀ x ∈ P, fn x.2 x.1 = 1
  low : ∀ x ∈ P, ∀ j, j < x.1 → fn x.2 j = 0
  off : ∀ x ∈ P, ∀ y ∈ P, x.1 ≠ y.1 → fn x.2 y.1 = 0
  inc : P.Pairwise fun x y => x.1 < y.1
def cs (P : List (Nat × List Int)) (v : Nat → Int) (j : Nat) : Int := (P.map fun x => v x.1 * fn x.2 j).sum
theorem sum_dvd {p : Int} : ∀ (l : List Int), (∀ x ∈ l, p ∣ x) → p ∣ l.sum
  | [], _ => by simp
  | x :: l, h => by
    rw [List.sum_cons]
    exact Int.dvd_add (h x (by simp)) (sum_dvd l fun y hy => h y (by simp [hy]))
theorem cs_zero {p : Int} {P : List (Nat × List Int)} {v : Nat → Int} {j : Nat} (h : ∀ x ∈ P, p ∣ v x.1 * fn x.2 j) : p ∣ cs P v j := by
  refine sum_dvd _ fun y hy => ?_
  obtain ⟨x, hx, rfl⟩ := List.mem_map.1 hy
  exact h x hx
theorem cs_lin : ∀ (P : List (Nat × List Int)) (u v : Nat → Int) (t : Int) (j : Nat), cs P (fun i => u i + t * v i) j = cs P u j + t * cs P v j
  | [], _, _, _, _ => by simp [cs]
  | x :: P, u, v, t, j => by
    have ih := cs_lin P u v t j
    simp only [cs, List.map_cons, List.sum_cons] at ih ⊢
    rw [ih]
    grind
theorem cs_cong {p : Int} {w : Nat} {P : List (Nat × List Int)} (hlt : ∀ x ∈ P, x.1 < w) {u v : Nat → Int} (h : ∀ j, j < w → p ∣ v j - u j) (j : Nat) : p ∣ cs P v j - cs P u j := by
  have e : cs P v j - cs P u j = cs P (fun i => v i + (-1) * u i) j := by rw [cs_lin]; omega
  rw [e]
  exact cs_zero fun x hx => dvd_one (fn x.2 j) (h x.1 (hlt x hx)) (by rw [Int.mul_comm]; congr 1; omega)
theorem sum_one {α : Type} (f : α → Int) (x : α) (A B : List α) (ha : ∀ y ∈ A, f y = 0) (hb : ∀ y ∈ B, f y = 0) : ((A ++ x :: B).map f).sum = f x := by
  have hz : ∀ C : List α, (∀ y ∈ C, f y = 0) → (C.map f).sum = 0 := by
    intro C
    induction C with
    | nil => intro _; rfl
    | cons y C ih => intro h; rw [List.map_cons, List.sum_cons, h y (by simp), ih fun z hz => h z (by simp [hz])]; rfl
  rw [List.map_append, List.sum_append, List.map_cons, List.sum_cons, hz A ha, hz B hb]; omega
theorem Z38 {P : List (Nat × List Int)} (hi : P.Pairwise fun x y => x.1 < y.1) {x : Nat × List Int} (hx : x ∈ P) : ∃ A B, P = A ++ x :: B ∧ (∀ y ∈ A, y.1 ≠ x.1) ∧ ∀ y ∈ B, y.1 ≠ x.1 := by
  obtain ⟨A, B, rfl⟩ := List.append_of_mem hx
  rw [List.pairwise_append, List.pairwise_cons] at hi
  exact ⟨A, B, rfl, fun y hy => Nat.ne_of_lt (hi.2.2 y hy x (by simp)), fun y hy => Nat.ne_of_gt (hi.2.1.1 y hy)⟩
theorem Rref.cs_row {p : Int} {w : Nat} {P : List (Nat × List Int)} (h : Rref p w P) {x : Nat × List Int} (hx : x ∈ P) (j : Nat) : cs P (fn x.2) j = fn x.2 j := by
  obtain ⟨A, B, e, ha, hb⟩ := Z38 h.inc hx
  have h1 : ∀ y, y ∈ P → y.1 ≠ x.1 → fn x.2 y.1 * fn y.2 j = 0 := fun y hy hn => by rw [h.off x hx y hy (Ne.symm hn), Int.zero_mul]
  rw [cs]
  conv => lhs; rw [e]
  rw [sum_one _ x A B (fun y hy => h1 y (by rw [e]; simp [hy]) (ha y hy)) (fun y hy => h1 y (by rw [e]; simp [hy]) (hb y hy)), h.one x hx, Int.one_mul]
theorem Rref.coord {p : Int} {w : Nat} {P : List (Nat × List Int)} (h : Rref p w P) {v : Nat → Int} (hv : Sp p w (P.map Prod.snd) v) : ∀ j, j < w → p ∣ v j - cs P v j := by
  induction hv with
  | zero v hz => exact fun j hj => dvd_lin 1 (-1) (hz j hj) (cs_zero (P := P) (j := j) fun x hx => dvd_one (fn x.2 j) (hz x.1 (h.lt x hx)) (Int.mul_comm _ _)) (by omega)
  | add v u r t hr _ h2 ih =>
    intro j hj
    obtain ⟨x, hx, rfl⟩ := List.mem_map.1 hr
    have h3 := cs_cong h.lt h2 j
    rw [cs_lin, h.cs_row hx] at h3
    have h4 := h2 j hj
    have h5 := ih j hj
    exact dvd_lin 1 1 (dvd_lin 1 (-1) h4 h3 rfl) h5 (by omega)
theorem Rref.lead {p : Int} {w : Nat} {P : List (Nat × List Int)} (h : Rref p w P) {v : Nat → Int} (hv : Sp p w (P.map Prod.snd) v) {j : Nat} (hj : j < w) (hz : ∀ i, i < j → p ∣ v i) (hn : ¬ p ∣ v j) : ∃ x ∈ P, x.1 = j := by
  by_cases hex : ∃ x ∈ P, x.1 = j
  · exact hex
  · exfalso
    have h1 := h.coord hv j hj
    refine hn (dvd_lin 1 1 h1 (cs_zero (P := P) (v := v) (j := j) fun x hx => ?_) (by omega))
    have hne : x.1 ≠ j := fun e => hex ⟨x, hx, e⟩
    by_cases hlt : x.1 < j
    · exact dvd_one (fn x.2 j) (hz x.1 hlt) (Int.mul_comm _ _)
    · rw [h.low x hx j (by omega), Int.mul_zero]; exact Int.dvd_zero p
theorem Z55 {α : Type} {key : α → Nat} : ∀ {P Q : List α}, P.Pairwise (fun x y => key x < key y) → Q.Pairwise (fun x y => key x < key y) → (∀ x, x ∈ P ↔ x ∈ Q) → P = Q
  | [], [], _, _, _ => rfl
  | [], y :: Q, _, _, h => absurd ((h y).2 (by simp)) (by simp)
  | x :: P, [], _, _, h => absurd ((h x).1 (by simp)) (by simp)
  | x :: P, y :: Q, hp, hq, h => by
    rw [List.pairwise_cons] at hp hq
    have e : x = y := by
      rcases List.mem_cons.1 ((h x).1 (by simp)) with e | hx
      · exact e
      · rcases List.mem_cons.1 ((h y).2 (by simp)) with e | hy
        · exact e.symm
        · have := hq.1 x hx; have := hp.1 y hy; omega
    subst e
    rw [Z55 hp.2 hq.2 fun z => ?_]
    constructor
    · intro hz
      rcases List.mem_cons.1 ((h z).1 (by simp [hz])) with e | hz'
      · subst e; have := hp.1 z hz; omega
      · exact hz'
    · intro hz
      rcases List.mem_cons.1 ((h z).2 (by simp [hz])) with e | hz'
      · subst e; have := hq.1 z hz; omega
      · exact hz'
theorem Z10 {p : Int} (hp : 2 ≤ p) : ¬ p ∣ 1 := fun h => by
  have := Int.le_of_dvd (by omega) h; omega
theorem Z48 {p a b : Int} (ha : 0 ≤ a ∧ a < p) (hb : 0 ≤ b ∧ b < p) (h : p ∣ a - b) : a = b := by
  obtain ⟨k, hk⟩ := h
  have : k = 0 := by
    by_cases h1 : 1 ≤ k
    · have := Int.mul_le_mul_of_nonneg_left h1 (show 0 ≤ p by omega); omega
    · by_cases h2 : k ≤ -1
      · have := Int.mul_le_mul_of_nonneg_left h2 (show 0 ≤ p by omega); omega
      · omega
  subst this; omega
theorem Z3 {p : Int} {w : Nat} {r : List Int} (h : r.length = w ∧ ∀ x ∈ r, 0 ≤ x ∧ x < p) (j : Nat) (hj : j < w) : 0 ≤ fn r j ∧ fn r j < p := by
  rw [fn, rd_at r j (by omega)]; exact h.2 _ (List.getElem_mem _)
theorem fn_ext {a b : List Int} {w : Nat} (ha : a.length = w) (hb : b.length = w) (h : ∀ j, j < w → fn a j = fn b j) : a = b := by
  refine List.ext_getElem (by omega) fun j h1 h2 => ?_
  have := h j (by omega)
  rwa [fn, fn, rd_at a j h1, rd_at b j h2] at this
theorem Rref.heads {p : Int} {w : Nat} {P Q : List (Nat × List Int)} (hp : 2 ≤ p) (h : Rref p w P) (k : Rref p w Q) (hs : ∀ x ∈ P, Sp p w (Q.map Prod.snd) (fn x.2)) {x : Nat × List Int} (hx : x ∈ P) : ∃ y ∈ Q, y.1 = x.1 :=
  k.lead (hs x hx) (h.lt x hx) (fun i hi => by rw [h.low x hx i hi]; exact Int.dvd_zero p) (by rw [h.one x hx]; exact Z10 hp)
theorem Rref.unique {p : Int} {w : Nat} {P Q : List (Nat × List Int)} (hp : 2 ≤ p) (h : Rref p w P) (k : Rref p w Q) (hs : ∀ x ∈ P, Sp p w (Q.map Prod.snd) (fn x.2)) (ks : ∀ x ∈ Q, Sp p w (P.map Prod.snd) (fn x.2)) : P = Q := by
  have key : ∀ {P Q : List (Nat × List Int)}, Rref p w P → Rref p w Q → (∀ x ∈ P, Sp p w (Q.map Prod.snd) (fn x.2)) → (∀ x ∈ Q, Sp p w (P.map Prod.snd) (fn x.2)) → ∀ x, x ∈ P → x ∈ Q := by
    intro P Q h k hs ks x hx
    obtain ⟨y, hy, e⟩ := h.heads hp k hs hx
    have e2 : x.2 = y.2 := by
      refine fn_ext (h.ok x hx).1 (k.ok y hy).1 fun j hj => Z48 (Z3 (h.ok x hx) j hj) (Z3 (k.ok y hy) j hj) ?_
      have h1 := k.coord (hs x hx) j hj
      have h2 : cs Q (fn x.2) j = fn y.2 j := by
        obtain ⟨A, B, e3, ha, hb⟩ := Z38 k.inc hy
        have h3 : ∀ z, z ∈ Q → z.1 ≠ y.1 → fn x.2 z.1 * fn z.2 j = 0 := fun z hz hn => by
          obtain ⟨x', hx', e4⟩ := k.heads hp h ks hz
          rw [← e4, h.off x hx x' hx' (by rw [e4, ← e]; exact Ne.symm hn), Int.zero_mul]
        rw [cs]
        conv => lhs; rw [e3]
        rw [sum_one _ y A B (fun z hz => h3 z (by rw [e3]; simp [hz]) (ha z hz)) (fun z hz => h3 z (by rw [e3]; simp [hz]) (hb z hz)), e, h.one x hx, Int.one_mul]
      rwa [h2] at h1
    have : x = y := Prod.ext e.symm e2
    rwa [this]
  exact Z55 (key := Prod.fst) h.inc k.inc fun x => ⟨key h k hs ks x, key k h ks hs x⟩
theorem Z6 : ∀ {P Q : List (Nat × List Int)}, P.Pairwise (fun x y => x.1 < y.1) → Q.Pairwise (fun x y => x.1 < y.1) → (∀ x ∈ P, ∃ y ∈ Q, y.1 = x.1) → P.length ≤ Q.length
  | [], _, _, _, _ => by simp
  | x :: P, Q, hp, hq, h => by
    obtain ⟨y, hy, e⟩ := h x (by simp)
    obtain ⟨A, B, rfl⟩ := List.append_of_mem hy
    rw [List.pairwise_cons] at hp
    have hq' := hq
    rw [List.pairwise_append, List.pairwise_cons] at hq
    have hq2 : (A ++ B).Pairwise fun x y => x.1 < y.1 := by
      rw [List.pairwise_append]
      exact ⟨hq.1, hq.2.1.2, fun a ha b hb => hq.2.2 a ha b (by simp [hb])⟩
    have := Z6 hp.2 hq2 fun z hz => by
      obtain ⟨u, hu, e2⟩ := h z (by simp [hz])
      have hne : u.1 ≠ y.1 := by have := hp.1 z hz; omega
      refine ⟨u, ?_, e2⟩
      simp only [List.mem_append, List.mem_cons] at hu ⊢
      rcases hu with hu | rfl | hu
      · exact .inl hu
      · exact absurd rfl hne
      · exact .inr hu
    simp at this ⊢
    omega
theorem Rref.len_le {p : Int} {w : Nat} {P Q : List (Nat × List Int)} (hp : 2 ≤ p) (h : Rref p w P) (k : Rref p w Q) (hs : ∀ x ∈ P, Sp p w (Q.map Prod.snd) (fn x.2)) : P.length ≤ Q.length :=
  Z6 h.inc k.inc fun _ hx => h.heads hp k hs hx
theorem Z8 (a p : Int) : p ∣ a - a % p := ⟨a / p, by have := Int.mul_ediv_add_emod a p; omega⟩
theorem fn_less {p t : Int} {h r : List Int} {w : Nat} (hh : h.length = w) (hr : r.length = w) {j : Nat} (hj : j < w) : fn (lessP p t h r) j = (fn r j - t * fn h j) % p := rd_less j (by omega) (by omega)
theorem fn_scale {p b : Int} {r : List Int} {w : Nat} (hr : r.length = w) {j : Nat} (hj : j < w) : fn (scaleP p b r) j = fn r j * b % p := rd_scale j (by omega)
theorem split_at {α : Type} [Inhabited α] (L : List α) (i : Nat) (d : α) (hi : i < L.length) : L = L.take i ++ L.getD i d :: L.drop (i + 1) ∧ L.eraseIdx i = L.take i ++ L.drop (i + 1) := by
  refine ⟨?_, List.eraseIdx_eq_take_drop_succ L i⟩
  rw [List.getD_eq_getElem?_getD, List.getElem?_eq_getElem hi, Option.getD_some, List.getElem_cons_drop, List.take_append_drop]
theorem mem_split {L : List (List Int)} {i : Nat} (hi : i < L.length) {r : List Int} : r ∈ L ↔ r = L.getD i [] ∨ r ∈ L.eraseIdx i := by
  obtain ⟨h1, h2⟩ := split_at L i [] hi
  rw [h2]
  conv => lhs; rw [h1]
  simp only [List.mem_append, List.mem_cons]
  constructor
  · rintro (h | h | h)
    · exact .inr (.inl h)
    · exact .inl h
    · exact .inr (.inr h)
  · rintro (h | h | h)
    · exact .inr (.inl h)
    · exact .inl h
    · exact .inr (.inr h)
theorem Z83 {p : Int} (hp : primeB p = true) {w : Nat} : ∀ (d c : Nat) (L : List (List Int)) (P : List (Nat × List Int)), c + d = w → okR p w L → Rref p w P → (∀ x ∈ P, x.1 < c) → zeroTo c L →
    ∃ Q : List (Nat × List Int), redP p d c L (P.map Prod.snd) = Q.map Prod.snd ∧ headsP p d c L (P.map fun x => (x.1 : Int)) = Q.map (fun x => (x.1 : Int)) ∧ Rref p w Q ∧ (∀ r ∈ L ++ P.map Prod.snd, Sp p w (Q.map Prod.snd) (fn r)) ∧ ∀ x ∈ Q, Sp p w (L ++ P.map Prod.snd) (fn x.2)
  | 0, c, L, P, hw, hL, hP, hlt, hz => by
    refine ⟨P, rfl, rfl, hP, fun r hr => ?_, fun x hx => Sp.mem (by simp; exact .inr ⟨_, hx⟩)⟩
    rcases List.mem_append.1 hr with hr | hr
    · exact .zero _ fun j hj => by rw [fn, hz r hr j (by omega)]; exact Int.dvd_zero p
    · exact Sp.mem hr
  | d + 1, c, L, P, hw, hL, hP, hlt, hz => by
    have hb := Z1 hp
    rw [redP, headsP]
    cases hf : L.findIdx? (fun row => rd row (c : Int) != 0) with
    | none => exact Z83 hp d (c + 1) L P (by omega) hL hP (fun x hx => by have := hlt x hx; omega) (Z53 hz hf)
    | some i =>
      simp only
      obtain ⟨hi, hne⟩ := find_lt hf
      have hx := hL _ (Z7 hi)
      have hxr := ok_rd hx c (by omega)
      have hne' : rd (L.getD i []) (c : Int) ≠ 0 := by simpa using hne
      have hinv := (Z15 hp hxr.1 hxr.2).2.2.2.1 hne'
      have hs := Z30 (p := p) (b := invP p (rd (L.getD i []) (c : Int))) (by omega) hx.1
      have hzn := Z54 hp (by omega) hL hz hf
      obtain ⟨x, hxe⟩ : ∃ x, L.getD i [] = x := ⟨_, rfl⟩
      rw [hxe] at hx hxr hne' hinv hs hzn ⊢
      have hxm : x ∈ L := hxe ▸ Z7 hi
      obtain ⟨b, hbe⟩ : ∃ b, invP p (rd x (c : Int)) = b := ⟨_, rfl⟩
      rw [hbe] at hinv hs hzn ⊢
      obtain ⟨h, hhe⟩ : ∃ h, scaleP p b x = h := ⟨_, rfl⟩
      have hfh : ∀ j, j < w → fn h j = fn x j * b % p := fun j hj => by rw [← hhe]; exact fn_scale hx.1 hj
      rw [hhe] at hs hzn ⊢
      have hhc : fn h c = 1 := by rw [hfh c (by omega)]; exact hinv
      have hhl : ∀ j, j < c → fn h j = 0 := fun j hj => by rw [hfh j (by omega), fn, hz x hxm j hj]; simp
      have hfl : ∀ r : List Int, r.length = w → ∀ j, j < w → fn (lessP p (rd r (c : Int)) h r) j = (fn r j - fn r c * fn h j) % p := fun r hr j hj => fn_less hs.1 hr hj
      -- the next state
      have hP' : Rref p w (P.map (fun y => (y.1, lessP p (rd y.2 (c : Int)) h y.2)) ++ [(c, h)]) := by
        have hm : ∀ z, z ∈ P.map (fun y => (y.1, lessP p (rd y.2 (c : Int)) h y.2)) ++ [(c, h)] → (∃ y ∈ P, z = (y.1, lessP p (rd y.2 (c : Int)) h y.2)) ∨ z = (c, h) := by
          intro z hz
          rcases List.mem_append.1 hz with hz | hz
          · obtain ⟨y, hy, rfl⟩ := List.mem_map.1 hz; exact .inl ⟨y, hy, rfl⟩
          · exact .inr (by simpa using hz)
        refine ⟨fun z hz => ?_, fun z hz => ?_, fun z hz => ?_, fun z hz j hj => ?_, fun z hz z' hz' hnn => ?_, ?_⟩
        · rcases hm z hz with ⟨y, hy, rfl⟩ | rfl
          · exact hP.lt y hy
          · show c < w; omega
        · rcases hm z hz with ⟨y, hy, rfl⟩ | rfl
          · exact less_ok (by omega) hs.1 (hP.ok y hy).1
          · exact hs
        · rcases hm z hz with ⟨y, hy, rfl⟩ | rfl
          · have h1 := hlt y hy
            show fn (lessP p (rd y.2 (c : Int)) h y.2) y.1 = 1
            rw [hfl _ (hP.ok y hy).1 y.1 (by omega), hP.one y hy, hhl y.1 h1, Int.mul_zero, Int.sub_zero, Int.emod_eq_of_lt (by omega) (by omega)]
          · exact hhc
        · rcases hm z hz with ⟨y, hy, rfl⟩ | rfl
          · have h1 := hlt y hy
            have hj' : j < y.1 := hj
            show fn (lessP p (rd y.2 (c : Int)) h y.2) j = 0
            rw [hfl _ (hP.ok y hy).1 j (by omega), hP.low y hy j hj', hhl j (by omega)]; simp
          · exact hhl j hj
        · rcases hm z hz with ⟨y, hy, rfl⟩ | rfl
          · rcases hm z' hz' with ⟨y', hy', rfl⟩ | rfl
            · have h1 := hlt y' hy'
              show fn (lessP p (rd y.2 (c : Int)) h y.2) y'.1 = 0
              rw [hfl _ (hP.ok y hy).1 y'.1 (by omega), hP.off y hy y' hy' hnn, hhl y'.1 h1]; simp
            · show fn (lessP p (rd y.2 (c : Int)) h y.2) c = 0
              rw [hfl _ (hP.ok y hy).1 c (by omega), hhc]; simp
          · rcases hm z' hz' with ⟨y', hy', rfl⟩ | rfl
            · exact hhl y'.1 (hlt y' hy')
            · exact absurd rfl hnn
        · rw [List.pairwise_append]
          refine ⟨?_, by simp, fun a ha b hb => ?_⟩
          · rw [List.pairwise_map]; exact hP.inc
          · obtain ⟨y, hy, rfl⟩ := List.mem_map.1 ha
            have hbe : b = (c, h) := by simpa using hb
            subst hbe
            exact hlt y hy
      have e1 : (P.map Prod.snd).map (fun r => lessP p (rd r (c : Int)) h r) ++ [h] = (P.map (fun y => (y.1, lessP p (rd y.2 (c : Int)) h y.2)) ++ [(c, h)]).map Prod.snd := by
        simp [List.map_map, Function.comp_def]
      have e2 : (P.map fun x => (x.1 : Int)) ++ [(c : Int)] = (P.map (fun y => (y.1, lessP p (rd y.2 (c : Int)) h y.2)) ++ [(c, h)]).map fun x => (x.1 : Int) := by
        simp [List.map_map, Function.comp_def]
      have ih := Z83 hp d (c + 1) ((L.eraseIdx i).map fun r => lessP p (rd r (c : Int)) h r) (P.map (fun y => (y.1, lessP p (rd y.2 (c : Int)) h y.2)) ++ [(c, h)]) (by omega) (Z22 _ (by omega) hs.1 (Z26 i hL)) hP' (fun z hz => by
          rcases List.mem_append.1 hz with hz | hz
          · obtain ⟨y, hy, rfl⟩ := List.mem_map.1 hz; have := hlt y hy; show y.1 < c + 1; omega
          · have : z = (c, h) := by simpa using hz
            subst this; show c < c + 1; omega) hzn
      rw [e1, e2]
      obtain ⟨Q, hq1, hq2, hQ, hq3, hq4⟩ := ih
      -- the spans
      have hold : ∀ r, r ∈ L ++ P.map Prod.snd → r.length = w := fun r hr => by
        rcases List.mem_append.1 hr with hr | hr
        · exact (hL r hr).1
        · obtain ⟨y, hy, rfl⟩ := List.mem_map.1 hr; exact (hP.ok y hy).1
      have hxs : ∀ j, j < w → p ∣ fn x j - fn x c * fn h j := fun j hj => by
        have h1 := Z8 (fn x j * b) p
        rw [← hfh j hj] at h1
        have h2 : p ∣ fn x c * b - 1 := by
          have := Z8 (fn x c * b) p
          rw [show fn x c * b % p = 1 from hinv] at this; exact this
        exact dvd_lin (fn x c) (-(fn x j)) h1 h2 (by grind)
      have hnewm : ∀ r, r ∈ L.eraseIdx i ++ P.map Prod.snd → lessP p (rd r (c : Int)) h r ∈ ((L.eraseIdx i).map fun r => lessP p (rd r (c : Int)) h r) ++ (P.map (fun y => (y.1, lessP p (rd y.2 (c : Int)) h y.2)) ++ [(c, h)]).map Prod.snd := fun r hr => by
        rcases List.mem_append.1 hr with hr | hr
        · exact List.mem_append_left _ (List.mem_map_of_mem hr)
        · obtain ⟨y, hy, rfl⟩ := List.mem_map.1 hr
          refine List.mem_append_right _ (List.mem_map.2 ⟨(y.1, lessP p (rd y.2 (c : Int)) h y.2), List.mem_append_left _ (List.mem_map.2 ⟨y, hy, rfl⟩), rfl⟩)
      have hhm : h ∈ ((L.eraseIdx i).map fun r => lessP p (rd r (c : Int)) h r) ++ (P.map (fun y => (y.1, lessP p (rd y.2 (c : Int)) h y.2)) ++ [(c, h)]).map Prod.snd :=
        List.mem_append_right _ (List.mem_map.2 ⟨(c, h), by simp, rfl⟩)
      have hto : ∀ r, r ∈ L ++ P.map Prod.snd → Sp p w (((L.eraseIdx i).map fun r => lessP p (rd r (c : Int)) h r) ++ (P.map (fun y => (y.1, lessP p (rd y.2 (c : Int)) h y.2)) ++ [(c, h)]).map Prod.snd) (fn r) := fun r hr => by
        have hcase : r = x ∨ r ∈ L.eraseIdx i ++ P.map Prod.snd := by
          rcases List.mem_append.1 hr with hr | hr
          · rcases (mem_split hi).1 hr with h1 | h1
            · exact .inl (h1.trans hxe)
            · exact .inr (List.mem_append_left _ h1)
          · exact .inr (List.mem_append_right _ hr)
        rcases hcase with rfl | hr2
        · exact ((Sp.mem hhm).scale (fn r c)).congr hxs
        · refine ((Sp.mem (hnewm r hr2)).sum ((Sp.mem hhm).scale (fn r c))).congr fun j hj => ?_
          rw [hfl r (hold r hr) j hj]
          exact dvd_one 1 (Z8 (fn r j - fn r c * fn h j) p) (by omega)
      have hfrom_h : Sp p w (L ++ P.map Prod.snd) (fn h) := ((Sp.mem (List.mem_append_left _ hxm)).scale b).congr fun j hj => by
        rw [hfh j hj]
        exact dvd_one (-1) (Z8 (fn x j * b) p) (by rw [Int.mul_comm b]; omega)
      have hfrom : ∀ r, r ∈ ((L.eraseIdx i).map fun r => lessP p (rd r (c : Int)) h r) ++ (P.map (fun y => (y.1, lessP p (rd y.2 (c : Int)) h y.2)) ++ [(c, h)]).map Prod.snd → Sp p w (L ++ P.map Prod.snd) (fn r) := fun r hr => by
        have hcase : r = h ∨ ∃ q, q ∈ L ++ P.map Prod.snd ∧ r = lessP p (rd q (c : Int)) h q := by
          rcases List.mem_append.1 hr with hr | hr
          · obtain ⟨q, hq, rfl⟩ := List.mem_map.1 hr
            exact .inr ⟨q, List.mem_append_left _ (List.mem_of_mem_eraseIdx hq), rfl⟩
          · obtain ⟨z, hz, rfl⟩ := List.mem_map.1 hr
            rcases List.mem_append.1 hz with hz | hz
            · obtain ⟨y, hy, rfl⟩ := List.mem_map.1 hz
              exact .inr ⟨y.2, List.mem_append_right _ (List.mem_map_of_mem hy), rfl⟩
            · have : z = (c, h) := by simpa using hz
              subst this; exact .inl rfl
        rcases hcase with rfl | ⟨q, hq, rfl⟩
        · exact hfrom_h
        · refine ((Sp.mem hq).sum (hfrom_h.scale (-(fn q c)))).congr fun j hj => ?_
          rw [hfl q (hold q hq) j hj]
          exact dvd_one (-1) (Z8 (fn q j - fn q c * fn h j) p) (by grind)
      exact ⟨Q, hq1, hq2, hQ, fun r hr => Sp.sub hq3 (hto r hr), fun z hz => Sp.sub hfrom (hq4 z hz)⟩
theorem Z4 {p : Int} (hp : primeB p = true) {w : Nat} {L : List (List Int)} (hL : okR p w L) :
    ∃ Q : List (Nat × List Int), redP p w 0 L [] = Q.map Prod.snd ∧ headsP p w 0 L [] = Q.map (fun x => (x.1 : Int)) ∧ Rref p w Q ∧ (∀ r ∈ L, Sp p w (Q.map Prod.snd) (fn r)) ∧ ∀ x ∈ Q, Sp p w L (fn x.2) := by
  have h := Z83 hp w 0 L [] (by omega) hL ⟨by simp, by simp, by simp, by simp, by simp, by simp⟩ (by simp) (fun r _ j hj => absurd hj (by omega))
  simpa using h
def pairsP (p : Int) (w : Nat) (L : List (List Int)) : List (Nat × List Int) := ((headsP p w 0 L []).map Int.toNat).zip (redP p w 0 L [])
theorem zip_maps {α β : Type} (f : Nat × List Int → α) (g : Nat × List Int → β) : ∀ Q : List (Nat × List Int), (Q.map f).zip (Q.map g) = Q.map fun x => (f x, g x)
  | [] => rfl
  | x :: Q => by rw [List.map_cons, List.map_cons, List.zip_cons_cons, zip_maps f g Q, List.map_cons]
theorem Z14 {p : Int} (hp : primeB p = true) {w : Nat} {L : List (List Int)} (hL : okR p w L) :
    redP p w 0 L [] = (pairsP p w L).map Prod.snd ∧ headsP p w 0 L [] = (pairsP p w L).map (fun x => (x.1 : Int)) ∧ Rref p w (pairsP p w L) ∧ (∀ r ∈ L, Sp p w ((pairsP p w L).map Prod.snd) (fn r)) ∧ ∀ x ∈ pairsP p w L, Sp p w L (fn x.2) := by
  obtain ⟨Q, e1, e2, hQ, h1, h2⟩ := Z4 hp hL
  have e : pairsP p w L = Q := by
    rw [pairsP, e1, e2, List.map_map, zip_maps]
    simp
  rw [e]
  exact ⟨e1, e2, hQ, h1, h2⟩
def nullFold (p : Int) (c : Nat) : List (Nat × List Int) → List Int → List Int
  | [], v => v
  | z :: P, v => nullFold p c P (v.set z.1 ((-(fn z.2 c)) % p))
def nullVec (p : Int) (w : Nat) (P : List (Nat × List Int)) (c : Nat) : List Int := nullFold p c P ((List.replicate w 0).set c 1)
def freeC (P : List (Nat × List Int)) (c : Nat) : Bool := !(P.any fun z => z.1 == c)
def nullRows (p : Int) (w : Nat) (P : List (Nat × List Int)) : List (List Int) := ((List.range w).filter (freeC P)).map (nullVec p w P)
def nullP (p : Int) (w : Nat) (L : List (List Int)) : List (List Int) := redP p w 0 (nullRows p w (pairsP p w L)) []
theorem Z51 (p : Int) (c : Nat) : ∀ (P : List (Nat × List Int)) (v : List Int), (nullFold p c P v).length = v.length
  | [], _ => rfl
  | z :: P, v => by rw [nullFold, Z51 p c P, List.length_set]
theorem fn_set (v : List Int) (i j : Nat) (x : Int) (hi : i < v.length) : fn (v.set i x) j = if j = i then x else fn v j := by
  by_cases e : j = i
  · subst e; simp [fn, rd, List.getD_eq_getElem?_getD, hi]
  · rw [if_neg e]; simp [fn, rd, List.getD_eq_getElem?_getD, List.getElem?_set_ne (Ne.symm e)]
theorem Z27 (p : Int) (c : Nat) : ∀ (P : List (Nat × List Int)) (v : List Int) (j : Nat), (∀ z ∈ P, z.1 < v.length) → (∀ z ∈ P, z.1 ≠ j) → fn (nullFold p c P v) j = fn v j
  | [], _, _, _, _ => rfl
  | z :: P, v, j, hl, h => by
    rw [nullFold, Z27 p c P _ j (fun y hy => by rw [List.length_set]; exact hl y (by simp [hy])) (fun y hy => h y (by simp [hy])), fn_set v z.1 j _ (hl z (by simp)), if_neg (Ne.symm (h z (by simp)))]
theorem Z58 (p : Int) (c : Nat) : ∀ (P : List (Nat × List Int)) (v : List Int) (x : Nat × List Int), (∀ z ∈ P, z.1 < v.length) → P.Pairwise (fun x y => x.1 < y.1) → x ∈ P → fn (nullFold p c P v) x.1 = (-(fn x.2 c)) % p
  | [], _, _, _, _, h => absurd h (by simp)
  | z :: P, v, x, hl, hi, h => by
    rw [List.pairwise_cons] at hi
    have hl2 : ∀ y ∈ P, y.1 < (v.set z.1 ((-(fn z.2 c)) % p)).length := fun y hy => by rw [List.length_set]; exact hl y (by simp [hy])
    rw [nullFold]
    rcases List.mem_cons.1 h with rfl | hx
    · rw [Z27 p c P _ x.1 hl2 (fun y hy => Nat.ne_of_gt (hi.1 y hy)), fn_set v x.1 x.1 _ (hl x (by simp)), if_pos rfl]
    · exact Z58 p c P _ x hl2 hi.2 hx
theorem Z43 {p : Int} {w : Nat} {P : List (Nat × List Int)} (h : Rref p w P) (c : Nat) {x : Nat × List Int} (hx : x ∈ P) : fn (nullVec p w P c) x.1 = (-(fn x.2 c)) % p :=
  Z58 p c P _ x (fun z hz => by simpa using h.lt z hz) h.inc hx
theorem Z11 {p : Int} {w : Nat} {P : List (Nat × List Int)} (h : Rref p w P) {c j : Nat} (hc : c < w) (hj : ∀ z ∈ P, z.1 ≠ j) : fn (nullVec p w P c) j = if j = c then 1 else 0 := by
  rw [nullVec, Z27 p c P _ j (fun z hz => by simpa using h.lt z hz) hj, fn_set _ c j _ (by simpa using hc)]
  by_cases e : j = c
  · rw [if_pos e, if_pos e]
  · rw [if_neg e, if_neg e]
    by_cases hw : j < w <;> simp [fn, rd, List.getD_eq_getElem?_getD, hw]
theorem nullVec_len (p : Int) (w : Nat) (P : List (Nat × List Int)) (c : Nat) : (nullVec p w P c).length = w := by simp [nullVec, Z51]
theorem Z23 {p : Int} (hp : 2 ≤ p) {w : Nat} {P : List (Nat × List Int)} (h : Rref p w P) : okR p w (nullRows p w P) := fun r hr => by
  obtain ⟨c, hc, rfl⟩ := List.mem_map.1 hr
  have hcw : c < w := by have := (List.mem_filter.1 hc).1; simpa using this
  refine ⟨nullVec_len p w P c, fun y hy => ?_⟩
  obtain ⟨j, hj, rfl⟩ := List.mem_iff_getElem.1 hy
  have e : (nullVec p w P c)[j] = fn (nullVec p w P c) j := by rw [fn, rd_at _ j hj]
  rw [e]
  by_cases hex : ∃ x ∈ P, x.1 = j
  · obtain ⟨x, hx, rfl⟩ := hex
    rw [Z43 h c hx]
    exact ⟨Int.emod_nonneg _ (by omega), Int.emod_lt_of_pos _ (by omega)⟩
  · rw [Z11 h hcw (fun z hz e => hex ⟨z, hz, e⟩)]
    split <;> omega
def dt (w : Nat) (u v : Nat → Int) : Int := ((List.range w).map fun j => u j * v j).sum
theorem sum_lin {α : Type} (f g : α → Int) (t : Int) : ∀ l : List α, (l.map fun x => f x + t * g x).sum = (l.map f).sum + t * (l.map g).sum
  | [] => by simp
  | x :: l => by
    rw [List.map_cons, List.map_cons, List.map_cons, List.sum_cons, List.sum_cons, List.sum_cons, sum_lin f g t l, Int.mul_add]; omega
theorem Z77 {p : Int} {α : Type} (f g : α → Int) : ∀ l : List α, (∀ x ∈ l, p ∣ f x - g x) → p ∣ (l.map f).sum - (l.map g).sum
  | [], _ => by simp
  | x :: l, h => by
    rw [List.map_cons, List.map_cons, List.sum_cons, List.sum_cons]
    exact dvd_lin 1 1 (h x (by simp)) (Z77 f g l fun y hy => h y (by simp [hy])) (by omega)
theorem dt_cong {p : Int} {w : Nat} {u u' v v' : Nat → Int} (hu : ∀ j, j < w → p ∣ u j - u' j) (hv : ∀ j, j < w → p ∣ v j - v' j) : p ∣ dt w u v - dt w u' v' :=
  Z77 _ _ _ fun j hj => by
    have hj' : j < w := by simpa using hj
    exact dvd_lin (v j) (u' j) (hu j hj') (hv j hj') (by grind)
theorem dt_sp {p : Int} {w : Nat} {L : List (List Int)} {v : Nat → Int} (h : ∀ r ∈ L, p ∣ dt w (fn r) v) {u : Nat → Int} (hu : Sp p w L u) : p ∣ dt w u v := by
  induction hu with
  | zero u hz =>
    refine sum_dvd _ fun y hy => ?_
    obtain ⟨j, hj, rfl⟩ := List.mem_map.1 hy
    exact Int.dvd_mul_of_dvd_left (hz j (by simpa using hj))
  | add u u' r t hr _ h2 ih =>
    have h3 := dt_cong (v := v) (v' := v) h2 (fun j _ => by simp)
    have e : dt w (fun j => u' j + t * fn r j) v = dt w u' v + t * dt w (fn r) v := by
      rw [dt, dt, dt, ← sum_lin]
      congr 1
      exact List.map_congr_left fun j _ => by grind
    rw [e] at h3
    exact dvd_lin 1 1 h3 (dvd_lin 1 t ih (h r hr) rfl) (by omega)
theorem sum_part {α : Type} (f : α → Int) (q : α → Bool) : ∀ l : List α, (l.map f).sum = ((l.filter q).map f).sum + ((l.filter fun x => !q x).map f).sum
  | [] => rfl
  | x :: l => by
    have ih := sum_part f q l
    cases h : q x <;> simp [h, ih] <;> omega
theorem Z39 {P : List (Nat × List Int)} {c : Nat} (h : freeC P c = true) : ∀ z ∈ P, z.1 ≠ c := fun z hz e => by
  have : P.any (fun z => z.1 == c) = true := List.any_eq_true.2 ⟨z, hz, by simp [e]⟩
  rw [freeC, this] at h; simp at h
theorem free_of {P : List (Nat × List Int)} {c : Nat} (h : ¬ ∃ z ∈ P, z.1 = c) : freeC P c = true := by
  rw [freeC]
  cases h2 : P.any (fun z => z.1 == c) with
  | false => rfl
  | true =>
    obtain ⟨z, hz, e⟩ := List.any_eq_true.1 h2
    exact absurd ⟨z, hz, by simpa using e⟩ h
theorem Z36 {l : List Nat} (hn : l.Nodup) {x : Nat} (hx : x ∈ l) : ∃ A B, l = A ++ x :: B ∧ (∀ y ∈ A, y ≠ x) ∧ ∀ y ∈ B, y ≠ x := by
  obtain ⟨A, B, rfl⟩ := List.append_of_mem hx
  rw [List.nodup_append, List.nodup_cons] at hn
  exact ⟨A, B, rfl, fun y hy e => hn.2.2 y hy x (by simp) e, fun y hy e => hn.2.1.1 (e ▸ hy)⟩
theorem dt_row {p : Int} {w : Nat} {P : List (Nat × List Int)} (h : Rref p w P) {x : Nat × List Int} (hx : x ∈ P) (v : Nat → Int) : dt w (fn x.2) v = v x.1 + (((List.range w).filter (freeC P)).map fun c => fn x.2 c * v c).sum := by
  rw [dt, sum_part _ (freeC P)]
  have hm : x.1 ∈ (List.range w).filter fun c => !freeC P c := by
    rw [List.mem_filter]
    refine ⟨by simpa using h.lt x hx, ?_⟩
    cases hf : freeC P x.1 with
    | false => rfl
    | true => exact absurd rfl (Z39 hf x hx)
  obtain ⟨A, B, e, ha, hb⟩ := Z36 (List.Nodup.sublist List.filter_sublist List.nodup_range) hm
  have hz : ∀ c, c ∈ (List.range w).filter (fun c => !freeC P c) → c ≠ x.1 → fn x.2 c * v c = 0 := fun c hc hne => by
    have hnf : freeC P c = false := by have := (List.mem_filter.1 hc).2; simpa using this
    have hex : ∃ z ∈ P, z.1 = c := by
      by_cases he : ∃ z ∈ P, z.1 = c
      · exact he
      · rw [free_of he] at hnf; simp at hnf
    obtain ⟨z, hz, rfl⟩ := hex
    rw [h.off x hx z hz (Ne.symm hne), Int.zero_mul]
  have h1 := sum_one (fun c => fn x.2 c * v c) x.1 A B (fun y hy => hz y (by rw [e]; simp [hy]) (ha y hy)) (fun y hy => hz y (by rw [e]; simp [hy]) (hb y hy))
  rw [e, h1, h.one x hx]; omega
theorem null_sound {p : Int} {w : Nat} {P : List (Nat × List Int)} (h : Rref p w P) {x : Nat × List Int} (hx : x ∈ P) {r : List Int} (hr : r ∈ nullRows p w P) : p ∣ dt w (fn x.2) (fn r) := by
  obtain ⟨c, hc, rfl⟩ := List.mem_map.1 hr
  have hcw : c < w := by have := (List.mem_filter.1 hc).1; simpa using this
  rw [dt_row h hx, Z43 h c hx]
  obtain ⟨A, B, e, ha, hb⟩ := Z36 (List.Nodup.sublist List.filter_sublist List.nodup_range) hc
  have hz : ∀ j, j ∈ (List.range w).filter (freeC P) → j ≠ c → fn x.2 j * fn (nullVec p w P c) j = 0 := fun j hj hne => by
    rw [Z11 h hcw (Z39 (List.mem_filter.1 hj).2), if_neg hne, Int.mul_zero]
  have h1 := sum_one (fun j => fn x.2 j * fn (nullVec p w P c) j) c A B (fun y hy => hz y (by rw [e]; simp [hy]) (ha y hy)) (fun y hy => hz y (by rw [e]; simp [hy]) (hb y hy))
  rw [e, h1, Z11 h hcw (Z39 (List.mem_filter.1 hc).2), if_pos rfl]
  exact dvd_one (-1) (Z8 (-(fn x.2 c)) p) (by omega)
theorem Z86 {p : Int} {w : Nat} {P : List (Nat × List Int)} (h : Rref p w P) {v : Nat → Int} (hv : ∀ x ∈ P, p ∣ dt w (fn x.2) v) : Sp p w (nullRows p w P) v := by
  have hsp : ∀ l : List Nat, (∀ c ∈ l, c ∈ (List.range w).filter (freeC P)) → Sp p w (nullRows p w P) fun j => (l.map fun c => v c * fn (nullVec p w P c) j).sum := by
    intro l
    induction l with
    | nil => intro _; exact .zero _ fun j _ => by simp
    | cons c l ih =>
      intro hl
      exact .add _ _ (nullVec p w P c) (v c) (List.mem_map.2 ⟨c, hl c (by simp), rfl⟩) (ih fun d hd => hl d (by simp [hd])) fun j _ => by
        rw [List.map_cons, List.sum_cons]; exact ⟨0, by omega⟩
  refine (hsp _ fun c hc => hc).congr fun j hj => ?_
  by_cases hex : ∃ x ∈ P, x.1 = j
  · obtain ⟨x, hx, rfl⟩ := hex
    have h1 := hv x hx
    rw [dt_row h hx] at h1
    have h2 : p ∣ (((List.range w).filter (freeC P)).map fun c => v c * fn (nullVec p w P c) x.1).sum - (((List.range w).filter (freeC P)).map fun c => 0 + (-1) * (fn x.2 c * v c)).sum := by
      refine Z77 _ _ _ fun c hc => ?_
      rw [Z43 h c hx]
      exact dvd_one (-(v c)) (Z8 (-(fn x.2 c)) p) (by grind)
    have e3 : (((List.range w).filter (freeC P)).map fun c => 0 + (-1) * (fn x.2 c * v c)).sum = (-1) * (((List.range w).filter (freeC P)).map fun c => fn x.2 c * v c).sum := by
      have := sum_lin (fun _ : Nat => (0 : Int)) (fun c => fn x.2 c * v c) (-1) ((List.range w).filter (freeC P))
      rw [this]
      have hz : ∀ l : List Nat, (l.map fun _ => (0 : Int)).sum = 0 := fun l => by induction l with
        | nil => rfl
        | cons a l ih => simpa using ih
      rw [hz]; omega
    rw [e3] at h2
    exact dvd_lin 1 (-1) h1 h2 (by omega)
  · have hjf : j ∈ (List.range w).filter (freeC P) := List.mem_filter.2 ⟨by simpa using hj, free_of hex⟩
    obtain ⟨A, B, e, ha, hb⟩ := Z36 (List.Nodup.sublist List.filter_sublist List.nodup_range) hjf
    have hz : ∀ c, c ∈ (List.range w).filter (freeC P) → c ≠ j → v c * fn (nullVec p w P c) j = 0 := fun c hc hne => by
      have hcw : c < w := by have := (List.mem_filter.1 hc).1; simpa using this
      rw [Z11 h hcw (fun z hz e => hex ⟨z, hz, e⟩), if_neg (Ne.symm hne), Int.mul_zero]
    have h1 := sum_one (fun c => v c * fn (nullVec p w P c) j) j A B (fun y hy => hz y (by rw [e]; simp [hy]) (ha y hy)) (fun y hy => hz y (by rw [e]; simp [hy]) (hb y hy))
    show p ∣ v j - (((List.range w).filter (freeC P)).map fun c => v c * fn (nullVec p w P c) j).sum
    rw [e, h1, Z11 h hj (fun z hz e => hex ⟨z, hz, e⟩), if_pos rfl]
    exact ⟨0, by omega⟩
theorem free_exists {p : Int} {w : Nat} {P : List (Nat × List Int)} (h : Rref p w P) (hl : P.length < w) : ∃ c, c < w ∧ freeC P c = true := by
  by_cases hex : ∃ c, c < w ∧ freeC P c = true
  · exact hex
  · exfalso
    have h1 := Z6 (P := (List.range w).map fun c => (c, ([] : List Int))) (Q := P) (by rw [List.pairwise_map]; exact List.pairwise_lt_range) h.inc (fun x hx => by
      obtain ⟨c, hc, rfl⟩ := List.mem_map.1 hx
      have hcw : c < w := by simpa using hc
      by_cases he : ∃ z ∈ P, z.1 = c
      · exact he
      · exact absurd ⟨c, hcw, free_of he⟩ hex)
    simp at h1
    omega
theorem Z84 (p : Int) : ∀ (d c : Nat) (L O : List (List Int)), (redP p d c L O).length ≤ L.length + O.length
  | 0, _, L, O => by rw [redP]; omega
  | d + 1, c, L, O => by
    rw [redP]
    split
    · exact Z84 p d (c + 1) L O
    · next i hf =>
      have hi := (find_lt hf).1
      refine Nat.le_trans (Z84 p d (c + 1) _ _) ?_
      simp [List.length_eraseIdx, hi]
      omega
theorem redP_ok {p : Int} (hp : 0 < p) {w : Nat} : ∀ (d c : Nat) (L O : List (List Int)), okR p w L → okR p w O → okR p w (redP p d c L O)
  | 0, _, L, O, _, hO => by rw [redP]; exact hO
  | d + 1, c, L, O, hL, hO => by
    rw [redP]
    split
    · exact redP_ok hp d (c + 1) L O hL hO
    · next i hf =>
      have hi := (find_lt hf).1
      have hs := Z30 (p := p) (b := invP p (rd (L.getD i []) (c : Int))) hp (hL _ (Z7 hi)).1
      exact redP_ok hp d (c + 1) _ _ (Z22 _ hp hs.1 (Z26 i hL)) (okR_app (Z22 _ hp hs.1 hO) (Z9 hs (okR_nil p w)))
def spanP (p : Int) (w : Nat) (L : List (List Int)) : List Int := (redP p w 0 L []).flatten
def rankP (p : Int) (w : Nat) (L : List (List Int)) : Nat := (redP p w 0 L []).length
theorem flat_len {w : Nat} : ∀ (M : List (List Int)), (∀ r ∈ M, r.length = w) → M.flatten.length = M.length * w
  | [], _ => by simp
  | r :: M, h => by
    rw [List.flatten_cons, List.length_append, h r (by simp), flat_len M (fun x hx => h x (by simp [hx])), List.length_cons, Nat.add_mul, Nat.one_mul, Nat.add_comm]
theorem spanP_len {p : Int} (hp : 0 < p) {w : Nat} {L : List (List Int)} (hL : okR p w L) : (spanP p w L).length = rankP p w L * w := flat_len _ (fun r hr => (redP_ok hp w 0 L [] hL (okR_nil p w) r hr).1)
def lineB (p : Int) (l : List Int) : Bool := numsB p l 8 && decide (spanP p 4 [l.take 4, l.drop 4] = l)
theorem Z5 {p : Int} {l : List Int} (h : numsB p l 8 = true) : okR p 4 [l.take 4, l.drop 4] := by
  obtain ⟨_, hl, hx⟩ := Z0 h
  refine Z9 ⟨by simp; omega, fun x hx' => hx x (List.mem_of_mem_take hx')⟩ (Z9 ⟨by simp; omega, fun x hx' => hx x (List.mem_of_mem_drop hx')⟩ (okR_nil p 4))
theorem Z2 {p : Int} {l : List Int} (h : lineB p l = true) : numsB p l 8 = true := by
  rw [lineB, Bool.and_eq_true] at h; exact h.1
theorem Z60 {p : Int} {l : List Int} (h : lineB p l = true) : rankP p 4 [l.take 4, l.drop 4] = 2 := by
  have hn := Z2 h
  have hb := Z1 (Z0 hn).1
  rw [lineB, Bool.and_eq_true] at h
  have h2 := of_decide_eq_true h.2
  have h3 := spanP_len (w := 4) (by omega) (Z5 hn)
  rw [h2, (Z0 hn).2.1] at h3
  omega
theorem Z20 {p : Int} (hp : primeB p = true) {w : Nat} {L : List (List Int)} (hL : okR p w L) :
    ∃ N : List (Nat × List Int), nullP p w L = N.map Prod.snd ∧ Rref p w N ∧ (∀ x ∈ N, ∀ r ∈ L, p ∣ dt w (fn r) (fn x.2)) ∧ ∀ v : Nat → Int, (∀ r ∈ L, p ∣ dt w (fn r) v) → Sp p w (N.map Prod.snd) v := by
  have hb := Z1 hp
  obtain ⟨e1, _, hP, h1, h2⟩ := Z14 hp hL
  obtain ⟨N, e3, _, hN, h4, h5⟩ := Z4 hp (Z23 (by omega) hP)
  have hcomm : ∀ u v : Nat → Int, dt w u v = dt w v u := fun u v => by
    rw [dt, dt]; congr 1; exact List.map_congr_left fun j _ => Int.mul_comm _ _
  refine ⟨N, e3, hN, fun x hx r hr => ?_, fun v hv => ?_⟩
  · refine dt_sp (L := (pairsP p w L).map Prod.snd) (fun s hs => ?_) (h1 r hr)
    obtain ⟨z, hz, rfl⟩ := List.mem_map.1 hs
    rw [hcomm]
    refine dt_sp (L := nullRows p w (pairsP p w L)) (fun q hq => ?_) (h5 x hx)
    rw [hcomm]
    exact null_sound hP hz hq
  · exact Sp.sub h4 (Z86 hP fun x hx => dt_sp hv (h2 x hx))
theorem nullP_ne {p : Int} (hp : primeB p = true) {w : Nat} {L : List (List Int)} (hL : okR p w L) (hr : rankP p w L < w) : nullP p w L ≠ [] := by
  have hb := Z1 hp
  obtain ⟨e1, _, hP, h1, h2⟩ := Z14 hp hL
  rw [rankP, e1, List.length_map] at hr
  obtain ⟨c, hc, hf⟩ := free_exists hP hr
  obtain ⟨N, e3, _, hN, h4, h5⟩ := Z4 hp (Z23 (by omega) hP)
  intro e
  rw [nullP] at e
  rw [e] at e3
  have hN0 : N.map Prod.snd = [] := e3.symm
  have hs := h4 (nullVec p w (pairsP p w L) c) (List.mem_map.2 ⟨c, List.mem_filter.2 ⟨by simpa using hc, hf⟩, rfl⟩)
  rw [hN0] at hs
  cases hs with
  | zero _ hz =>
    have := hz c hc
    rw [Z11 hP hc (Z39 hf), if_pos rfl] at this
    exact Z10 (by omega) this
  | add _ u r t hr2 _ _ => exact absurd hr2 (by simp)
theorem rank_mono {p : Int} (hp : primeB p = true) {w : Nat} {L M : List (List Int)} (hL : okR p w L) (hM : okR p w M) (h : ∀ r ∈ L, Sp p w M (fn r)) : rankP p w L ≤ rankP p w M := by
  have hb := Z1 hp
  obtain ⟨P, e1, _, hP, _, h2⟩ := Z4 hp hL
  obtain ⟨Q, e3, _, hQ, h4, _⟩ := Z4 hp hM
  rw [rankP, rankP, e1, e3, List.length_map, List.length_map]
  exact hP.len_le (by omega) hQ fun x hx => Sp.sub h4 (Sp.sub h (h2 x hx))
theorem red_same {p : Int} (hp : primeB p = true) {w : Nat} {L M : List (List Int)} (hL : okR p w L) (hM : okR p w M) (h : ∀ r ∈ L, Sp p w M (fn r)) (k : ∀ r ∈ M, Sp p w L (fn r)) : redP p w 0 L [] = redP p w 0 M [] := by
  have hb := Z1 hp
  obtain ⟨P, e1, _, hP, h1, h2⟩ := Z4 hp hL
  obtain ⟨Q, e3, _, hQ, h4, h5⟩ := Z4 hp hM
  rw [e1, e3, hP.unique (by omega) hQ (fun x hx => Sp.sub h4 (Sp.sub h (h2 x hx))) (fun x hx => Sp.sub h1 (Sp.sub k (h5 x hx)))]
theorem rank_le {p : Int} {w : Nat} (L : List (List Int)) : rankP p w L ≤ L.length := by
  have := Z84 p w 0 L []
  simpa [rankP] using this
def tr (w : Nat) (L : List (List Int)) : List (List Int) := (List.range w).map fun j => L.map fun r => fn r j
theorem fn_map (L : List (List Int)) (f : List Int → Int) (i : Nat) (hi : i < L.length) : fn (L.map f) i = f (L.getD i []) := by
  rw [fn, rd_at _ i (by rw [List.length_map]; exact hi), List.getElem_map, List.getD_eq_getElem?_getD, List.getElem?_eq_getElem hi]; rfl
theorem tr_ok {p : Int} {w : Nat} {L : List (List Int)} (hL : okR p w L) : okR p L.length (tr w L) := fun r hr => by
  obtain ⟨j, hj, rfl⟩ := List.mem_map.1 hr
  refine ⟨by simp, fun x hx => ?_⟩
  obtain ⟨q, hq, rfl⟩ := List.mem_map.1 hx
  exact Z3 (hL q hq) j (by simpa using hj)
theorem rel_ne {p : Int} (hp : primeB p = true) {w : Nat} {L : List (List Int)} (hL : okR p w L) (hr : rankP p w L < L.length) : nullP p L.length (tr w L) ≠ [] := by
  have hb := Z1 hp
  obtain ⟨e1, _, hP, h1, h2⟩ := Z14 hp hL
  generalize hQ : pairsP p w L = P at *
  have hl : P.length < L.length := by rw [rankP, e1, List.length_map] at hr; exact hr
  have hM : okR p L.length (P.map fun x => L.map fun r => fn r x.1) := fun r hr => by
    obtain ⟨x, hx, rfl⟩ := List.mem_map.1 hr
    refine ⟨by simp, fun y hy => ?_⟩
    obtain ⟨q, hq, rfl⟩ := List.mem_map.1 hy
    exact Z3 (hL q hq) x.1 (hP.lt x hx)
  have hne := nullP_ne hp hM (Nat.lt_of_le_of_lt (rank_le _) (by rw [List.length_map]; exact hl))
  obtain ⟨N, e3, hN, h4, _⟩ := Z20 hp hM
  match N, hN, e3, h4 with
  | [], _, e3, _ => exact absurd e3 hne
  | z :: N, hN, _, h4 =>
    obtain ⟨T, e5, hT, _, h6⟩ := Z20 hp (tr_ok hL)
    have hs := h6 (fn z.2) (fun r hr => by
      obtain ⟨j, hj, rfl⟩ := List.mem_map.1 hr
      have hjw : j < w := by simpa using hj
      refine dt_sp (L := P.map fun x => L.map fun r => fn r x.1) (fun m hm => h4 z (by simp) m hm) ?_
      have hsp : ∀ Q : List (Nat × List Int), (∀ x ∈ Q, x ∈ P) → Sp p L.length (P.map fun x => L.map fun r => fn r x.1) fun i => cs Q (fn (L.getD i [])) j := by
        intro Q
        induction Q with
        | nil => intro _; exact .zero _ fun i _ => by simp [cs]
        | cons x Q ih =>
          intro hQ
          exact .add _ _ (L.map fun r => fn r x.1) (fn x.2 j) (List.mem_map.2 ⟨x, hQ x (by simp), rfl⟩) (ih fun y hy => hQ y (by simp [hy])) fun i hi => by
            rw [fn_map L (fun r => fn r x.1) i hi]
            simp only [cs, List.map_cons, List.sum_cons]
            exact ⟨0, by rw [Int.mul_comm (fn x.2 j)]; omega⟩
      refine (hsp P fun x hx => hx).congr fun i hi => ?_
      rw [fn_map L (fun r => fn r j) i hi]
      exact hP.coord (h1 _ (Z7 hi)) j hjw)
    intro e
    rw [e] at e5
    rw [← e5] at hs
    cases hs with
    | zero _ hz =>
      have := hz z.1 (hN.lt z (by simp))
      rw [hN.one z (by simp)] at this
      exact Z10 (by omega) this
    | add _ u r t hr2 _ _ => exact absurd hr2 (by simp)
theorem Z90 (l : List Int) (v : Int) (hlen : l.length ≤ 1000000) (h : Nat) (hl : h < l.length) (hv : rd l (h : Int) = v) (hn : ∀ j : Nat, j < h → rd l (j : Int) ≠ v) : ∀ (d i : Nat), i + d = h → Ev (fun k => slices_Index_int_int.l0 k l v (l.length : Int) (i : Int)) (h : Int)
  | 0, i, e => by
    obtain rfl : i = h := by omega
    refine Ev.step (f := fun _ => some (i : Int)) (fun k => ?_) (Ev.now _)
    rw [slices_Index_int_int.l0, if_pos (by omega), if_pos (by omega), if_pos (by omega), if_pos hv.symm]
  | d + 1, i, e => by
    refine Ev.step (f := fun k => slices_Index_int_int.l0 k l v (l.length : Int) ((i + 1 : Nat) : Int)) (fun k => ?_) (Z90 l v hlen h hl hv hn d (i + 1) (by omega))
    rw [slices_Index_int_int.l0, if_pos (by omega), if_pos (by omega), if_pos (by omega), if_neg (fun e2 => hn i (by omega) e2.symm), wsm (by omega) (by omega)]; rfl
theorem Z75 (l : List Int) (v : Int) (hlen : l.length ≤ 1000000) (hn : ∀ j : Nat, j < l.length → rd l (j : Int) ≠ v) : ∀ (d i : Nat), i + d = l.length → Ev (fun k => slices_Index_int_int.l0 k l v (l.length : Int) (i : Int)) (-1)
  | 0, i, e => by
    refine Ev.step (f := fun _ => some (-1)) (fun k => ?_) (Ev.now _)
    rw [slices_Index_int_int.l0, if_neg (by omega)]
  | d + 1, i, e => by
    refine Ev.step (f := fun k => slices_Index_int_int.l0 k l v (l.length : Int) ((i + 1 : Nat) : Int)) (fun k => ?_) (Z75 l v hlen hn d (i + 1) (by omega))
    rw [slices_Index_int_int.l0, if_pos (by omega), if_pos (by omega), if_pos (by omega), if_neg (fun e2 => hn i (by omega) e2.symm), wsm (by omega) (by omega)]; rfl
theorem Index_ev (l : List Int) (v : Int) (hlen : l.length ≤ 1000000) {h : Nat} (hl : h < l.length) (hv : rd l (h : Int) = v) (hn : ∀ j : Nat, j < h → rd l (j : Int) ≠ v) : Ev (fun k => slices_Index_int_int.f k l v) (h : Int) := by
  unfold slices_Index_int_int.f
  exact Z90 l v hlen h hl hv hn h 0 (by omega)
theorem first_at (l : List Int) (v : Int) : ∀ n : Nat, n ≤ l.length → (∃ h : Nat, h < n ∧ rd l (h : Int) = v ∧ ∀ j : Nat, j < h → rd l (j : Int) ≠ v) ∨ ∀ j : Nat, j < n → rd l (j : Int) ≠ v
  | 0, _ => .inr fun j hj => absurd hj (by omega)
  | n + 1, hn => by
    rcases first_at l v n (by omega) with ⟨h, h1, h2, h3⟩ | h
    · exact .inl ⟨h, by omega, h2, h3⟩
    · by_cases e : rd l (n : Int) = v
      · exact .inl ⟨n, by omega, e, h⟩
      · refine .inr fun j hj => ?_
        rcases Nat.lt_succ_iff_lt_or_eq.1 hj with h1 | h1
        · exact h j h1
        · rw [h1]; exact e
theorem Contains_ev (l : List Int) (v : Int) (hlen : l.length ≤ 1000000) : Ev (fun k => slices_Contains_int_int.f k l v) (decide (v ∈ l)) := by
  unfold slices_Contains_int_int.f slices_Index_int_int.f
  rcases first_at l v l.length (by omega) with ⟨h, h1, h2, h3⟩ | h
  · have hm : v ∈ l := by rw [← h2, rd_at l h h1]; exact List.getElem_mem _
    refine Ev.bind (Z90 l v hlen h h1 h2 h3 h 0 (by omega)) ?_
    rw [decide_eq_true (show (h : Int) ≥ 0 by omega), decide_eq_true hm]; exact Ev.now _
  · have hm : ¬ v ∈ l := fun hm => by
      obtain ⟨j, hj, e⟩ := List.mem_iff_getElem.1 hm
      exact h j hj (by rw [rd_at l j hj]; exact e)
    refine Ev.bind (Z75 l v hlen h l.length 0 (by omega)) ?_
    rw [decide_eq_false (show ¬ (-1 : Int) ≥ 0 by omega), decide_eq_false hm]; exact Ev.now _
theorem mod_neg {p : Int} (hp : primeB p = true) {x : Int} (h0 : 0 ≤ x) (h1 : x < p) : impl_mod.f (wrap64 (-x)) p = some ((-x) % p) := by
  have hb := Z1 hp
  rw [modV_f p _ (by omega), Z18 ⟨by omega, by omega⟩ (by omega) (by omega)]
theorem Z69 (P : List (Nat × List Int)) (i : Nat) (hi : i < P.length) : rd_L1 (P.map Prod.snd) (i : Int) = (P[i]).2 := by
  simp [rd_L1, List.getD_eq_getElem?_getD, hi]
theorem rd_map_fst (P : List (Nat × List Int)) (i : Nat) (hi : i < P.length) : rd (P.map fun x => (x.1 : Int)) (i : Int) = ((P[i]).1 : Int) := by
  simp [rd, List.getD_eq_getElem?_getD, hi]
theorem Z82 {p : Int} {w : Nat} {P : List (Nat × List Int)} (h : Rref p w P) : P.length ≤ w := by
  have h1 := Z6 (P := P) (Q := (List.range w).map fun c => (c, ([] : List Int))) h.inc (by rw [List.pairwise_map]; exact List.pairwise_lt_range) (fun x hx => ⟨(x.1, []), List.mem_map.2 ⟨x.1, by simpa using h.lt x hx, rfl⟩, rfl⟩)
  simpa using h1
theorem free_heads {P : List (Nat × List Int)} (c : Nat) : decide ((c : Int) ∈ P.map fun x => (x.1 : Int)) = !freeC P c := by
  rw [freeC, Bool.not_not, Bool.eq_iff_iff, decide_eq_true_iff, List.any_eq_true]
  constructor
  · intro h
    obtain ⟨x, hx, e⟩ := List.mem_map.1 h
    exact ⟨x, hx, by have : x.1 = c := by omega
                     simp [this]⟩
  · rintro ⟨x, hx, e⟩
    exact List.mem_map.2 ⟨x, hx, by have : x.1 = c := by simpa using e
                                    omega⟩
theorem sol_heads {p : Int} {w : Nat} (hw : w ≤ 1000) {P : List (Nat × List Int)} (h : Rref p w P) {R : List (List Int)} (hend : Ev (fun k => impl_solutions.l1 k p (w : Int) (P.map Prod.snd) (P.map fun x => (x.1 : Int)) [] (w : Int) 0) R) : ∀ (d i : Nat), i + d = P.length →
    Ev (fun k => impl_solutions.l0 k p (w : Int) (P.map Prod.snd) ((P.map fun x => (x.1 : Int)).take i) (P.map Prod.snd) ((P.map Prod.snd).length : Int) (i : Int)) R
  | 0, i, e => by
    refine Ev.step (f := fun k => impl_solutions.l1 k p (w : Int) (P.map Prod.snd) (P.map fun x => (x.1 : Int)) [] (w : Int) 0) (fun k => ?_) hend
    rw [impl_solutions.l0, if_neg (by rw [List.length_map]; omega), List.take_of_length_le (by rw [List.length_map]; omega)]
  | d + 1, i, e => by
    have hi : i < P.length := by omega
    have hle := Z82 h
    have ih := sol_heads hw h hend d (i + 1) (by omega)
    have hm := List.getElem_mem hi
    refine Ev.step (fun k => by rw [impl_solutions.l0, if_pos (by rw [List.length_map]; omega), if_pos (by omega), if_pos (by rw [List.length_map]; omega), Z69 P i hi]) ?_
    have hlen := (h.ok _ hm).1
    refine Ev.bind (Index_ev (P[i]).2 1 (by omega) (h := (P[i]).1) (by rw [hlen]; exact h.lt _ hm) (h.one _ hm) (fun j hj => by
      have := h.low _ hm j hj
      rw [fn] at this; rw [this]; decide)) (Ev.yes (by simp; omega) ?_)
    rw [wsm (by omega) (by omega), show ((P.map fun x => (x.1 : Int)).take i) ++ [((P[i]).1 : Int)] = (P.map fun x => (x.1 : Int)).take (i + 1) by
      rw [List.take_add_one, List.getElem?_map, List.getElem?_eq_getElem hi]; rfl]
    exact ih
theorem sol_one {p : Int} (hp : primeB p = true) {w : Nat} (hw : w ≤ 1000) {P : List (Nat × List Int)} (h : Rref p w P) {c : Nat} (hc : c < w) {O : List (List Int)} (hO : O.length ≤ 1000) {R : List (List Int)} : ∀ (d i : Nat) (v V : List Int), i + d = P.length → v.length = w → nullFold p c (P.drop i) v = V →
    Ev (fun k => impl_solutions.l1 k p (w : Int) (P.map Prod.snd) (P.map fun x => (x.1 : Int)) (O ++ [V]) (w : Int) ((c + 1 : Nat) : Int)) R →
    Ev (fun k => impl_solutions.l2 k p (w : Int) (P.map Prod.snd) (P.map fun x => (x.1 : Int)) O (c : Int) v (w : Int) (c : Int) (P.map Prod.snd) ((P.map Prod.snd).length : Int) (i : Int)) R
  | 0, i, v, V, e, hv, hV, hend => by
    rw [List.drop_eq_nil_of_le (by omega), nullFold] at hV
    subst hV
    refine Ev.step (fun k => by rw [impl_solutions.l2, if_neg (by rw [List.length_map]; omega), if_pos (by omega), wsm (by omega) (by omega)]) ?_
    simpa using hend
  | d + 1, i, v, V, e, hv, hV, hend => by
    have hi : i < P.length := by omega
    have hle := Z82 h
    have hm := List.getElem_mem hi
    have hlen := (h.ok _ hm).1
    have hlt := h.lt _ hm
    have hr := Z3 (h.ok _ hm) c hc
    rw [fn] at hr
    rw [List.drop_eq_getElem_cons hi, nullFold] at hV
    refine Ev.step (fun k => by rw [impl_solutions.l2, if_pos (by rw [List.length_map]; omega), if_pos (by omega), if_pos (by rw [List.length_map]; omega), if_pos (by rw [List.length_map]; omega), if_pos (by omega), Z69 P i hi, if_pos (by omega), rd_map_fst P i hi, mod_neg hp hr.1 hr.2]) ?_
    refine Ev.bind (a := (-(rd (P[i]).2 (c : Int))) % p) (Ev.now _) (Ev.yes (by omega) (Ev.yes (by omega) ?_))
    have ih := sol_one hp hw h hc hO d (i + 1) (v.set (P[i]).1 ((-(rd (P[i]).2 (c : Int))) % p)) V (by omega) (by rw [List.length_set]; exact hv) hV hend
    rw [wsm (by omega) (by omega)]
    simpa using ih
theorem Z79 {p : Int} (hp : primeB p = true) {w : Nat} (hw : w ≤ 1000) {P : List (Nat × List Int)} (h : Rref p w P) : ∀ (d c : Nat) (O : List (List Int)), c + d = w → O = (((List.range c).filter (freeC P)).map (nullVec p w P)) →
    Ev (fun k => impl_solutions.l1 k p (w : Int) (P.map Prod.snd) (P.map fun x => (x.1 : Int)) O (w : Int) (c : Int)) (redP p w 0 (nullRows p w P) [])
  | 0, c, O, e, hO => by
    obtain rfl : c = w := by omega
    have hb := Z1 hp
    refine Ev.step (fun k => by rw [impl_solutions.l1, if_neg (by omega)]) ?_
    have hlen : O.length < 1000000 := by
      rw [hO, List.length_map]
      have := List.length_filter_le (freeC P) (List.range c)
      simp at this; omega
    have hok := Z23 (p := p) (by omega) h
    subst hO
    exact Ev.bind (Z40 hp (w := c) _ (by omega) hlen hok) (Ev.now _)
  | d + 1, c, O, e, hO => by
    have hle := Z82 h
    have hOl : O.length ≤ 1000 := by
      rw [hO, List.length_map]
      have := List.length_filter_le (freeC P) (List.range c)
      simp at this; omega
    have hsucc : (List.range (c + 1)).filter (freeC P) = (List.range c).filter (freeC P) ++ (if freeC P c = true then [c] else []) := by
      rw [List.range_succ, List.filter_append]
      congr 1
      cases hf : freeC P c <;> simp [hf]
    refine Ev.step (fun k => by rw [impl_solutions.l1, if_pos (by omega)]) ?_
    refine Ev.bind (Contains_ev _ (c : Int) (by rw [List.length_map]; omega)) ?_
    rw [free_heads]
    cases hf : freeC P c with
    | false =>
      refine Ev.yes rfl ?_
      rw [wsm (by omega) (by omega)]
      exact Z79 hp hw h d (c + 1) O (by omega) (by rw [hsucc, hf, hO]; simp)
    | true =>
      refine Ev.no (by simp) (Ev.yes (by omega) (Ev.yes (by omega) (Ev.bind (a := List.replicate w 0) (by simpa using Ev.now (List.replicate w (0 : Int))) (Ev.yes (by omega) (Ev.yes (by simp; omega) ?_)))))
      have hend := Z79 hp hw h d (c + 1) (O ++ [nullVec p w P c]) (by omega) (by rw [hsucc, hf, hO]; simp)
      have := sol_one hp hw h (c := c) (by omega) hOl (R := redP p w 0 (nullRows p w P) []) P.length 0 ((List.replicate w 0).set c 1) (nullVec p w P c) (by omega) (by simp) (by rw [List.drop_zero]; rfl) hend
      simpa using this
theorem Z78 {p : Int} (hp : primeB p = true) {w : Nat} (hw : w ≤ 1000) (L : List (List Int)) (hl : L.length < 1000000) (hL : ∀ r ∈ L, r.length = w) : Ev (fun k => impl_solutions.f k p L (w : Int)) (nullP p w (L.map fun r => r.map (modV p))) := by
  have hb := Z1 hp
  have hok : okR p w (L.map fun r => r.map (modV p)) := fun x hx => by
    obtain ⟨r, hr, rfl⟩ := List.mem_map.1 hx
    refine ⟨by rw [List.length_map, hL r hr], fun y hy => ?_⟩
    obtain ⟨z, _, rfl⟩ := List.mem_map.1 hy
    have h2 := tmod_bd (p := p) (by omega) z
    rw [modV, wsm (by omega) (by omega), Int.tmod_eq_emod_of_nonneg (by omega)]
    exact ⟨Int.emod_nonneg _ (by omega), Int.emod_lt_of_pos _ (by omega)⟩
  obtain ⟨e1, _, hP, _, _⟩ := Z14 hp hok
  unfold impl_solutions.f
  refine Ev.bind (Z41 hp L (by omega) hl hL) ?_
  rw [e1]
  have h := sol_heads (p := p) hw hP (Z79 hp hw hP w 0 [] (by omega) (by simp)) (pairsP p w (L.map fun r => r.map (modV p))).length 0 (by omega)
  simpa [nullP] using h
theorem solutions_ev {p : Int} (hp : primeB p = true) {w : Nat} (hw : w ≤ 1000) (L : List (List Int)) (hl : L.length < 1000000) (hL : okR p w L) : Ev (fun k => impl_solutions.f k p L (w : Int)) (nullP p w L) := by
  have h := Z78 hp hw L hl (fun r hr => (hL r hr).1)
  have e : (L.map fun r => r.map (modV p)) = L := by
    rw [List.map_congr_left (g := id)]
    · simp
    · intro r hr
      rw [List.map_congr_left (g := id)]
      · simp
      · intro x hx; have := (hL r hr).2 x hx; exact modV_self hp this.1 this.2
  rwa [e] at h
def meetRow (p : Int) (t l : List Int) : List Int := (List.range 4).map fun j => (fn t 0 * fn l j + fn t 1 * fn l (4 + j)) % p
def rows4 (l m : List Int) : List (List Int) := [l.take 4, l.drop 4, m.take 4, m.drop 4]
theorem fn_take (l : List Int) (n j : Nat) (hj : j < n) : fn (l.take n) j = fn l j := by
  simp [fn, rd, List.getD_eq_getElem?_getD, List.getElem?_take, hj]
theorem fn_drop (l : List Int) (n j : Nat) : fn (l.drop n) j = fn l (n + j) := by
  have e : ((n : Int) + (j : Int)).toNat = n + j := by omega
  simp [fn, rd, List.getD_eq_getElem?_getD, e]
theorem tr_rows4 (l m : List Int) : tr 4 (rows4 l m) = (List.range 4).map fun j => [fn l j, fn l (4 + j), fn m j, fn m (4 + j)] := by
  refine List.map_congr_left fun j hj => ?_
  have hj4 : j < 4 := by simpa using hj
  simp [rows4, fn_take, fn_drop, hj4]
theorem rows4_ok {p : Int} {l m : List Int} (hl : numsB p l 8 = true) (hm : numsB p m 8 = true) : okR p 4 (rows4 l m) := okR_app (Z5 hl) (Z5 hm)
theorem rd_w {p : Int} {l : List Int} (hl : numsB p l 8 = true) (j : Nat) (hj : j < 8) : 0 ≤ fn l j ∧ fn l j < p := Z3 (Z0 hl).2 j hj
theorem cplace_l {p : Int} (hp : primeB p = true) {l t : List Int} (hl : numsB p l 8 = true) (ht : t.length = 4 ∧ ∀ x ∈ t, 0 ≤ x ∧ x < p) : ∀ (d i : Nat), i + d = 4 →
    Ev (fun k => impl_commonPlace.l1 k p l t ((List.range i).map fun j => fn t 0 * fn l j + fn t 1 * fn l (4 + j)) (i : Int)) (monP p (meetRow p t l))
  | 0, i, e => by
    obtain rfl : i = 4 := by omega
    have hb := Z1 hp
    have ht0 := Z3 ht 0 (by omega)
    have ht1 := Z3 ht 1 (by omega)
    refine Ev.step (fun k => by rw [impl_commonPlace.l1, if_neg (by omega)]) ?_
    have h := monic_ev hp ((List.range 4).map fun j => fn t 0 * fn l j + fn t 1 * fn l (4 + j)) (by simp) (fun x hx => by
      obtain ⟨j, hj, rfl⟩ := List.mem_map.1 hx
      have hj4 : j < 4 := by simpa using hj
      have h1 := rd_w hl j (by omega)
      have h2 := rd_w hl (4 + j) (by omega)
      have m1 := mul30 (by omega) ht0.1 ht0.2 h1.1 h1.2
      have m2 := mul30 (by omega) ht1.1 ht1.2 h2.1 h2.2
      omega)
    rw [List.map_map] at h
    exact Ev.bind h (Ev.now _)
  | d + 1, i, e => by
    have hb := Z1 hp
    have ht0 := Z3 ht 0 (by omega)
    have ht1 := Z3 ht 1 (by omega)
    have h1 := rd_w hl i (by omega)
    have h2 := rd_w hl (4 + i) (by omega)
    have m1 := mul30 (by omega) ht0.1 ht0.2 h1.1 h1.2
    have m2 := mul30 (by omega) ht1.1 ht1.2 h2.1 h2.2
    have h8 := (Z0 hl).2.1
    have ih := cplace_l hp hl ht d (i + 1) (by omega)
    refine Ev.step (fun k => ?_) ih
    rw [impl_commonPlace.l1, if_pos (by omega), if_pos (by omega), if_pos (by omega), if_pos (by omega), if_pos (by omega), wsm (i := 4 + (i : Int)) (by omega) (by omega), if_pos (by omega), if_pos (by omega), if_pos (by simp; omega)]
    have e0 : rd t 0 = fn t 0 := rfl
    have e1 : rd t 1 = fn t 1 := rfl
    have e2 : rd l (i : Int) = fn l i := rfl
    have e3 : rd l (4 + (i : Int)) = fn l (4 + i) := by rw [fn]; congr 1
    rw [e0, e1, e2, e3, wsm (i := fn t 0 * fn l i) (by omega) (by omega), wsm (i := fn t 1 * fn l (4 + i)) (by omega) (by omega), wsm (i := fn t 0 * fn l i + fn t 1 * fn l (4 + i)) (by omega) (by omega), wsm (i := (i : Int) + 1) (by omega) (by omega)]
    rw [List.range_succ, List.map_append]; rfl
theorem ccols_l {p : Int} {l m : List Int} (hl : numsB p l 8 = true) (hm : numsB p m 8 = true) {R : List Int} (hend : Ev (fun k => (impl_solutions.f k p (tr 4 (rows4 l m)) 4).bind fun t => if 0 < (t.length : Int) then impl_commonPlace.l1 k p l (rd_L1 t 0) [] 0 else none) R) : ∀ (d i : Nat), i + d = 4 →
    Ev (fun k => impl_commonPlace.l0 k p l m ((List.range i).map fun j => [fn l j, fn l (4 + j), fn m j, fn m (4 + j)]) (i : Int)) R
  | 0, i, e => by
    obtain rfl : i = 4 := by omega
    refine Ev.step (fun k => by rw [impl_commonPlace.l0, if_neg (by omega), ← tr_rows4]) hend
  | d + 1, i, e => by
    have h8 := (Z0 hl).2.1
    have h8m := (Z0 hm).2.1
    have ih := ccols_l hl hm hend d (i + 1) (by omega)
    refine Ev.step (fun k => ?_) ih
    rw [impl_commonPlace.l0, if_pos (by omega), if_pos (by omega), if_pos (by omega), wsm (i := 4 + (i : Int)) (by omega) (by omega), if_pos (by omega), if_pos (by omega), if_pos (by omega), if_pos (by omega), if_pos (by simp; omega)]
    have e2 : rd l (i : Int) = fn l i := rfl
    have e4 : rd m (i : Int) = fn m i := rfl
    have e3 : rd l (4 + (i : Int)) = fn l (4 + i) := by rw [fn]; congr 1
    have e5 : rd m (4 + (i : Int)) = fn m (4 + i) := by rw [fn]; congr 1
    rw [e2, e3, e4, e5, wsm (i := (i : Int) + 1) (by omega) (by omega), List.range_succ, List.map_append]; rfl
def relP (p : Int) (l m : List Int) : List Int := (nullP p 4 (tr 4 (rows4 l m))).headD []
theorem null_ok {p : Int} (hp : primeB p = true) {w : Nat} {L : List (List Int)} (hL : okR p w L) : okR p w (nullP p w L) := by
  obtain ⟨N, e, hN, _, _⟩ := Z20 hp hL
  rw [e]
  intro r hr
  obtain ⟨x, hx, rfl⟩ := List.mem_map.1 hr
  exact hN.ok x hx
theorem Z66 {p : Int} {l m : List Int} (hl : numsB p l 8 = true) (hm : numsB p m 8 = true) (h3 : rankP p 4 (rows4 l m) = 3) : Ev (fun k => impl_commonPlace.f k p l m) (monP p (meetRow p (relP p l m) l)) := by
  have hp := (Z0 hl).1
  have hok := rows4_ok hl hm
  have hne := rel_ne hp hok (by rw [h3]; simp [rows4])
  have hto : okR p 4 (tr 4 (rows4 l m)) := tr_ok hok
  have hno := null_ok hp hto
  have hs := solutions_ev hp (w := 4) (by omega) (tr 4 (rows4 l m)) (by simp [tr]) hto
  have hne' : nullP p 4 (tr 4 (rows4 l m)) ≠ [] := hne
  unfold impl_commonPlace.f
  refine ccols_l hl hm ?_ 4 0 (by omega)
  refine Ev.bind hs ?_
  unfold relP
  cases hN : nullP p 4 (tr 4 (rows4 l m)) with
  | nil => exact absurd hN hne'
  | cons t N =>
    rw [hN] at hno
    refine Ev.yes (by simp) ?_
    have h := cplace_l hp hl (hno t (by simp)) 4 0 (by omega)
    simpa [rd_L1] using h
def crossB (p : Int) (l m : List Int) : Bool := lineB p l && lineB p m && decide (rankP p 4 [l.take 4, l.drop 4, m.take 4, m.drop 4] = 3)
theorem four_ok {p : Int} {l m : List Int} (hl : numsB p l 8 = true) (hm : numsB p m 8 = true) : okR p 4 [l.take 4, l.drop 4, m.take 4, m.drop 4] := okR_app (Z5 hl) (Z5 hm)
def placeP (p : Int) (l m : List Int) : List Int × Bool := if crossB p l m = true then (monP p (meetRow p (relP p l m) l), true) else ([], false)
def cubeRows (p : Int) (k : Nat) : List (List Int) :=
  if k / 9 = 0 then [[(rootsT p).getD (k / 3 % 3) 0, 1, 0, 0], [0, 0, (rootsT p).getD (k % 3) 0, 1]]
  else if k / 9 = 1 then [[(rootsT p).getD (k / 3 % 3) 0, 0, 1, 0], [0, (rootsT p).getD (k % 3) 0, 0, 1]]
  else [[(rootsT p).getD (k / 3 % 3) 0, 0, 0, 1], [0, (rootsT p).getD (k % 3) 0, 1, 0]]
def lineC (p k : Int) : List Int := spanP p 4 (cubeRows p k.toNat)
def cellC (p : Int) (i j : Nat) : Bool := crossB p (lineC p (i : Int)) (lineC p (j : Int))
def rowC (p : Int) (i : Nat) : List Bool := (List.range 27).map (cellC p i)
theorem lineC_line_t : ∀ p ∈ ([7, 13, 19, 31] : List Int), ∀ k ∈ List.range 27, lineB p (lineC p (k : Int)) = true := by decide +kernel
theorem Z37 {p : Int} (hp : p = 7 ∨ p = 13 ∨ p = 19 ∨ p = 31) {k : Nat} (hk : k < 27) : lineB p (lineC p (k : Int)) = true := lineC_line_t p (by simp; omega) k (by simp; omega)
theorem Z21 {p : Int} (hp : p = 7 ∨ p = 13 ∨ p = 19 ∨ p = 31) {k : Nat} (hk : k < 27) : numsB p (lineC p (k : Int)) 8 = true := by
  have h := Z37 hp hk
  rw [lineB, Bool.and_eq_true] at h
  exact h.1
theorem cell_self_t : ∀ p ∈ ([7, 13, 19, 31] : List Int), ∀ k ∈ List.range 27, cellC p k k = false := by decide +kernel
theorem cell_self {p : Int} (hp : p = 7 ∨ p = 13 ∨ p = 19 ∨ p = 31) {k : Nat} (hk : k < 27) : cellC p k k = false := cell_self_t p (by simp; omega) k (by simp; omega)
theorem cell_rank {p : Int} (hp : p = 7 ∨ p = 13 ∨ p = 19 ∨ p = 31) {i j : Nat} (hi : i < 27) (hj : j < 27) : decide (rankP p 4 [(lineC p (i : Int)).take 4, (lineC p (i : Int)).drop 4, (lineC p (j : Int)).take 4, (lineC p (j : Int)).drop 4] = 3) = cellC p i j := by
  unfold cellC crossB
  rw [Z37 hp hi, Z37 hp hj]
  simp
def maskC : List Nat := [25829966, 71615637, 36772131, 71637105, 36840106, 25740572, 36750729, 25762130, 71705316, 42245393, 69806690, 22169228, 69788300, 22107409, 42350690, 22221410, 42378380, 69847313, 20529930, 39195809, 76326996, 29758548, 44607754, 74531489, 103065761, 88687188, 59905290]
def bitC (i j : Nat) : Bool := (maskC.getD i 0).testBit j
theorem bit_t : ∀ p ∈ ([7, 13, 19, 31] : List Int), ∀ i ∈ List.range 27, ∀ j ∈ List.range 27, cellC p i j = bitC i j := by decide +kernel
theorem Z25 {p : Int} (hp : p = 7 ∨ p = 13 ∨ p = 19 ∨ p = 31) {i j : Nat} (hi : i < 27) (hj : j < 27) : cellC p i j = bitC i j := bit_t p (by simp; omega) i (by simp; omega) j (by simp; omega)
def placeC (p : Int) (i j : Nat) : List Int := (placeP p (lineC p (i : Int)) (lineC p (j : Int))).1
def onC (p : Int) (i j k : Nat) : Bool := decide (rankP p 4 [(lineC p (k : Int)).take 4, (lineC p (k : Int)).drop 4, placeC p i j] = 2)
def starI (p : Int) (i j k : Nat) : Int := if bitC i j = true ∧ bitC i k = true ∧ bitC j k = true then (if onC p i j k = true then 1 else 0) else 0
def starS (p : Int) (i j k : Nat) : Int := if bitC i j = true ∧ bitC i k = true ∧ bitC j k = true then (if placeC p i j = placeC p i k then 1 else 0) else 0
def sumN (f : Nat → Int) : Nat → Int
  | 0 => 0
  | n + 1 => sumN f n + f n
def sumR (f : Nat → Int) : Nat → Nat → Int
  | 0, _ => 0
  | d + 1, a => f a + sumR f d (a + 1)
def starsP (p : Int) : Int × Bool := if rootsT p ≠ [] then (18, true) else (0, false)
theorem iRoots_table : ∀ p ∈ ([7, 11, 13, 17, 19, 23, 29, 31] : List Int), impl_cubeRoots.f 60 p = some (rootsT p) := by decide +kernel
theorem iRoots_ev (p : Int) : Ev (fun k => impl_cubeRoots.f k p) (rootsT p) := by
  cases hp : primeB p with
  | true => exact Ev.of (impl_cubeRoots.mono p) (iRoots_table p (by have := Z12 hp; simp; omega))
  | false =>
    unfold impl_cubeRoots.f
    refine Ev.bind (isPrime_ev p) ?_
    rw [hp, Z68 hp]
    exact Ev.no (by simp) (Ev.now _)
theorem Z62 : ∀ p ∈ ([7, 13, 19, 31] : List Int), ∀ k ∈ List.range 27, impl_cubeLine.f 60 p (rootsT p) (k : Int) = some (lineC p (k : Int)) := by decide +kernel
theorem Z13 {p k : Int} (hp : p = 7 ∨ p = 13 ∨ p = 19 ∨ p = 31) (h0 : 0 ≤ k) (h1 : k < 27) : Ev (fun n => impl_cubeLine.f n p (rootsT p) k) (lineC p k) := by
  have h := Z62 p (by simp; omega) k.toNat (by simp; omega)
  rw [show ((k.toNat : Nat) : Int) = k by omega] at h
  exact Ev.of (impl_cubeLine.mono _ _ _) h
def monicB (l : List Int) : Bool := (l.find? (fun x => x != 0)) == some 1
def placeB (p : Int) (a : List Int) : Bool := numsB p a 4 && monicB a
theorem Z19 {p : Int} {a : List Int} (h : placeB p a = true) : numsB p a 4 = true ∧ monicB a = true := by
  rw [placeB, Bool.and_eq_true] at h; exact h
theorem Z16 {p : Int} {a : List Int} (h : numsB p a 4 = true) : a.length = 4 ∧ ∀ x ∈ a, 0 ≤ x ∧ x < p := (Z0 h).2
theorem three_ok {p : Int} {a l : List Int} (hl : numsB p l 8 = true) (ha : numsB p a 4 = true) : okR p 4 [l.take 4, l.drop 4, a] := okR_app (Z5 hl) (Z9 (Z16 ha) (okR_nil p 4))
theorem Z44 : ∀ (l : List Int), monicB l = true → ∃ h, h < l.length ∧ fn l h = 1 ∧ ∀ j, j < h → fn l j = 0
  | [], h => by simp [monicB] at h
  | x :: l, h => by
    by_cases hx : x = 0
    · subst hx
      have h' : monicB l = true := by simpa [monicB] using h
      obtain ⟨i, h1, h2, h3⟩ := Z44 l h'
      have e : ∀ j : Nat, fn (0 :: l) (j + 1) = fn l j := fun j => by simp [fn, rd]
      refine ⟨i + 1, by simpa using h1, by rw [e]; exact h2, fun j hj => ?_⟩
      cases j with
      | zero => simp [fn, rd]
      | succ j => rw [e]; exact h3 j (by omega)
    · have h1 : x = 1 := by simpa [monicB, hx] using h
      subst h1
      exact ⟨0, by simp, by simp [fn, rd], fun j hj => absurd hj (by omega)⟩
theorem monic_one {p : Int} {w : Nat} (hp : 2 ≤ p) {a : List Int} (ha : a.length = w ∧ ∀ x ∈ a, 0 ≤ x ∧ x < p) (hm : monicB a = true) {x : Nat × List Int} (hx : Rref p w [x]) (hs : Sp p w [x.2] (fn a)) : a = x.2 := by
  obtain ⟨h, h1, h2, h3⟩ := Z44 a hm
  have hl := hx.lead (v := fn a) hs (j := h) (by omega) (fun i hi => by rw [h3 i hi]; exact Int.dvd_zero p) (by rw [h2]; exact Z10 hp)
  obtain ⟨y, hy, e⟩ := hl
  have hyx : y = x := by simpa using hy
  subst hyx
  refine fn_ext ha.1 (hx.ok y (by simp)).1 fun j hj => Z48 (Z3 ha j hj) (Z3 (hx.ok y (by simp)) j hj) ?_
  have := hx.coord (v := fn a) hs j hj
  have e2 : cs [y] (fn a) j = fn y.2 j := by simp [cs, e, h2]
  rwa [e2] at this
theorem Z65 {p : Int} {w : Nat} (hp : 2 ≤ p) {a : List Int} (ha : a.length = w) (hm : monicB a = true) : ¬ Sp p w [] (fn a) := fun hs => by
  obtain ⟨h, h1, h2, h3⟩ := Z44 a hm
  cases hs with
  | zero _ hz => have := hz h (by omega); rw [h2] at this; exact Z10 hp this
  | add _ u r t hr _ _ => exact absurd hr (by simp)
theorem rank_two {p : Int} {a b : List Int} (ha : placeB p a = true) (hb : placeB p b = true) (hne : a ≠ b) : rankP p 4 [a, b] = 2 := by
  obtain ⟨ha1, ha2⟩ := Z19 ha
  obtain ⟨hb1, hb2⟩ := Z19 hb
  have hp := (Z0 ha1).1
  have hbd := Z1 hp
  have hok : okR p 4 [a, b] := Z9 (Z16 ha1) (Z9 (Z16 hb1) (okR_nil p 4))
  have hle := rank_le (p := p) (w := 4) [a, b]
  obtain ⟨P, e1, _, hP, h1, h2⟩ := Z4 hp hok
  have hl : rankP p 4 [a, b] = P.length := by rw [rankP, e1, List.length_map]
  match P, hP, h1, hl with
  | [], _, h1, _ => exact absurd (h1 a (by simp)) (Z65 (by omega) (Z16 ha1).1 ha2)
  | [x], hP, h1, _ => exact absurd ((monic_one (by omega) (Z16 ha1) ha2 hP (h1 a (by simp))).trans (monic_one (by omega) (Z16 hb1) hb2 hP (h1 b (by simp))).symm) hne
  | _ :: _ :: _, _, _, hl => simp at hl hle; omega
theorem through_ok {p : Int} {a b : List Int} (ha : placeB p a = true) (hb : placeB p b = true) : okR p 4 [a, b] := Z9 (Z16 (Z19 ha).1) (Z9 (Z16 (Z19 hb).1) (okR_nil p 4))
theorem keys_same : ∀ {P Q : List (Nat × List Int)}, P.Pairwise (fun x y => x.1 < y.1) → Q.Pairwise (fun x y => x.1 < y.1) → (∀ x ∈ P, ∃ y ∈ Q, y.1 = x.1) → P.length = Q.length → ∀ y ∈ Q, ∃ x ∈ P, x.1 = y.1 := by
  intro P Q hp hq h hl y hy
  by_cases hex : ∃ x ∈ P, x.1 = y.1
  · exact hex
  · exfalso
    obtain ⟨A, B, rfl⟩ := List.append_of_mem hy
    rw [List.pairwise_append, List.pairwise_cons] at hq
    have hq2 : (A ++ B).Pairwise fun x y => x.1 < y.1 := by
      rw [List.pairwise_append]
      exact ⟨hq.1, hq.2.1.2, fun a ha b hb => hq.2.2 a ha b (by simp [hb])⟩
    have := Z6 hp hq2 fun z hz => by
      obtain ⟨u, hu, e2⟩ := h z hz
      refine ⟨u, ?_, e2⟩
      simp only [List.mem_append, List.mem_cons] at hu ⊢
      rcases hu with hu | rfl | hu
      · exact .inl hu
      · exact absurd ⟨z, hz, e2.symm⟩ hex
      · exact .inr hu
    simp at this hl
    omega
theorem Rref.unique_len {p : Int} {w : Nat} {P Q : List (Nat × List Int)} (hp : 2 ≤ p) (h : Rref p w P) (k : Rref p w Q) (hs : ∀ x ∈ P, Sp p w (Q.map Prod.snd) (fn x.2)) (hl : P.length = Q.length) : P = Q := by
  have hk := keys_same h.inc k.inc (fun x hx => h.heads hp k hs hx) hl
  have key : ∀ x, x ∈ P → x ∈ Q := by
    intro x hx
    obtain ⟨y, hy, e⟩ := h.heads hp k hs hx
    have e2 : x.2 = y.2 := by
      refine fn_ext (h.ok x hx).1 (k.ok y hy).1 fun j hj => Z48 (Z3 (h.ok x hx) j hj) (Z3 (k.ok y hy) j hj) ?_
      have h1 := k.coord (hs x hx) j hj
      have h2 : cs Q (fn x.2) j = fn y.2 j := by
        obtain ⟨A, B, e3, ha, hb⟩ := Z38 k.inc hy
        have h3 : ∀ z, z ∈ Q → z.1 ≠ y.1 → fn x.2 z.1 * fn z.2 j = 0 := fun z hz hn => by
          obtain ⟨x', hx', e4⟩ := hk z hz
          rw [← e4, h.off x hx x' hx' (by rw [e4, ← e]; exact Ne.symm hn), Int.zero_mul]
        rw [cs]
        conv => lhs; rw [e3]
        rw [sum_one _ y A B (fun z hz => h3 z (by rw [e3]; simp [hz]) (ha z hz)) (fun z hz => h3 z (by rw [e3]; simp [hz]) (hb z hz)), e, h.one x hx, Int.one_mul]
      rwa [h2] at h1
    have : x = y := Prod.ext e.symm e2
    rwa [this]
  refine Z55 (key := Prod.fst) h.inc k.inc fun x => ⟨key x, fun hx => ?_⟩
  obtain ⟨y, hy, e⟩ := hk x hx
  have hyq := key y hy
  by_cases e2 : y = x
  · rwa [← e2]
  · exfalso
    obtain ⟨A, B, e3, ha, hb⟩ := Z38 k.inc hx
    rw [e3, List.mem_append, List.mem_cons] at hyq
    rcases hyq with hyq | hyq | hyq
    · exact ha y hyq e
    · exact e2 hyq
    · exact hb y hyq e
theorem red_same_len {p : Int} (hp : primeB p = true) {w : Nat} {L M : List (List Int)} (hL : okR p w L) (hM : okR p w M) (h : ∀ r ∈ L, Sp p w M (fn r)) (hr : rankP p w L = rankP p w M) : redP p w 0 L [] = redP p w 0 M [] ∧ ∀ r ∈ M, Sp p w L (fn r) := by
  have hb := Z1 hp
  obtain ⟨P, e1, _, hP, h1, h2⟩ := Z4 hp hL
  obtain ⟨Q, e3, _, hQ, h4, h5⟩ := Z4 hp hM
  rw [rankP, rankP, e1, e3, List.length_map, List.length_map] at hr
  have e := hP.unique_len (by omega) hQ (fun x hx => Sp.sub h4 (Sp.sub h (h2 x hx))) hr
  refine ⟨by rw [e1, e3, e], fun r hr => ?_⟩
  refine Sp.sub (fun s hs => ?_) (h4 r hr)
  rw [← e] at hs
  obtain ⟨x, hx, rfl⟩ := List.mem_map.1 hs
  exact h2 x hx
theorem red_self {p : Int} (hp : primeB p = true) {w : Nat} {L : List (List Int)} (hL : okR p w L) : redP p w 0 (redP p w 0 L []) [] = redP p w 0 L [] := by
  have hb := Z1 hp
  obtain ⟨P, e1, _, hP, h1, h2⟩ := Z4 hp hL
  have hok := redP_ok (p := p) (by omega) w 0 L [] hL (okR_nil p w)
  rw [e1] at hok ⊢
  rw [← e1]
  refine (red_same hp (e1 ▸ hok) hL (fun r hr => ?_) (fun r hr => ?_))
  · rw [e1] at hr
    obtain ⟨x, hx, rfl⟩ := List.mem_map.1 hr
    exact h2 x hx
  · rw [e1]; exact h1 r hr
theorem pair_flat {x y l : List Int} (hx : x.length = 4) (h : [x, y].flatten = l) : l.take 4 = x ∧ l.drop 4 = y := by
  subst h
  simp [← hx]
theorem span_line {p : Int} (hp : primeB p = true) {L : List (List Int)} (hL : okR p 4 L) (h2 : rankP p 4 L = 2) :
    lineB p (spanP p 4 L) = true ∧ redP p 4 0 L [] = [(spanP p 4 L).take 4, (spanP p 4 L).drop 4] := by
  have hb := Z1 hp
  have hro := redP_ok (p := p) (by omega) 4 0 L [] hL (okR_nil p 4)
  have hself := red_self hp hL
  rw [rankP] at h2
  have hsp : spanP p 4 L = (redP p 4 0 L []).flatten := rfl
  generalize hM : redP p 4 0 L [] = M at *
  match M, h2 with
  | [x, y], _ =>
    have hx := hro x (by simp)
    have hy := hro y (by simp)
    obtain ⟨e1, e2⟩ := pair_flat hx.1 hsp.symm
    have hl8 : (spanP p 4 L).length = 8 := by rw [hsp]; simp; omega
    refine ⟨?_, by rw [e1, e2]⟩
    rw [lineB, e1, e2, Z85 hp hl8 (fun z hz => ?_), Bool.true_and]
    · rw [spanP, hself, ← hsp]; exact decide_eq_true rfl
    · rw [hsp] at hz
      simp only [List.flatten_cons, List.flatten_nil, List.append_nil, List.mem_append] at hz
      rcases hz with hz | hz
      · exact hx.2 z hz
      · exact hy.2 z hz
theorem line_self {p : Int} {l : List Int} (h : lineB p l = true) : redP p 4 0 [l.take 4, l.drop 4] [] = [l.take 4, l.drop 4] := by
  have hn := Z2 h
  have hp := (Z0 hn).1
  have hs := (span_line hp (Z5 hn) (Z60 h)).2
  rw [lineB, Bool.and_eq_true] at h
  rw [of_decide_eq_true h.2] at hs
  exact hs
theorem line_span {p : Int} {l : List Int} (h : lineB p l = true) : spanP p 4 [l.take 4, l.drop 4] = l := by
  rw [lineB, Bool.and_eq_true] at h; exact of_decide_eq_true h.2
theorem Z49 {p : Int} {a b l : List Int} (hl : lineB p l = true) (ha : placeB p a = true) (hb : placeB p b = true) (hne : a ≠ b) (sa : Sp p 4 [l.take 4, l.drop 4] (fn a)) (sb : Sp p 4 [l.take 4, l.drop 4] (fn b)) : spanP p 4 [a, b] = l := by
  have hn := Z2 hl
  have h1 := red_same_len (Z0 hn).1 (through_ok ha hb) (Z5 hn) (fun r hr => by
    simp only [List.mem_cons, List.not_mem_nil, or_false] at hr
    rcases hr with rfl | rfl
    · exact sa
    · exact sb) (by rw [rank_two ha hb hne, Z60 hl])
  rw [spanP, h1.1, ← spanP, line_span hl]
theorem Z52 {p : Int} {m : List Int} (h : lineB p m = true) {x y : Int} (hxy : ∀ j, j < 4 → p ∣ x * fn (m.take 4) j + y * fn (m.drop 4) j) : p ∣ x ∧ p ∣ y := by
  have hn := Z2 h
  have hp := (Z0 hn).1
  obtain ⟨Q, e1, _, hQ, _, _⟩ := Z4 hp (Z5 hn)
  rw [line_self h] at e1
  match Q, e1, hQ with
  | [], e1, _ => simp at e1
  | [_], e1, _ => simp at e1
  | _ :: _ :: _ :: _, e1, _ => simp at e1
  | [a, b], e1, hQ =>
    simp only [List.map_cons, List.map_nil, List.cons.injEq, and_true] at e1
    obtain ⟨ea, eb⟩ := e1
    have hlt := hQ.inc
    simp at hlt
    have h1 := hxy a.1 (hQ.lt a (by simp))
    have h2 := hxy b.1 (hQ.lt b (by simp))
    rw [ea, eb, hQ.one a (by simp), hQ.off b (by simp) a (by simp) (by omega)] at h1
    rw [ea, eb, hQ.one b (by simp), hQ.off a (by simp) b (by simp) (by omega)] at h2
    exact ⟨by simpa using h1, by simpa using h2⟩
theorem Z73 : ∀ (l : List Int) (h : Nat), h < l.length → fn l h = 1 → (∀ j, j < h → fn l j = 0) → monicB l = true
  | [], _, h, _, _ => absurd h (by simp)
  | x :: l, 0, _, h1, _ => by
    have : x = 1 := by simpa [fn, rd] using h1
    subst this; rfl
  | x :: l, h + 1, hl, h1, hz => by
    have e : ∀ j : Nat, fn (x :: l) (j + 1) = fn l j := fun j => by simp [fn, rd]
    have hx : x = 0 := by simpa [fn, rd] using hz 0 (by omega)
    have ih := Z73 l h (by simpa using hl) (by rw [← e]; exact h1) (fun j hj => by rw [← e]; exact hz (j + 1) (by omega))
    subst hx
    simpa [monicB] using ih
theorem first_ne : ∀ (l : List Int), ¬ (l.all fun x => x == 0) = true → ∃ c, c < l.length ∧ fn l c ≠ 0 ∧ ∀ j, j < c → fn l j = 0
  | [], h => absurd rfl h
  | x :: l, h => by
    have e : ∀ j : Nat, fn (x :: l) (j + 1) = fn l j := fun j => by simp [fn, rd]
    by_cases hx : x = 0
    · obtain ⟨c, h1, h2, h3⟩ := first_ne l (fun h2 => h (by simp [hx]; simpa using h2))
      refine ⟨c + 1, by simpa using h1, by rw [e]; exact h2, fun j hj => ?_⟩
      cases j with
      | zero => simpa [fn, rd] using hx
      | succ j => rw [e]; exact h3 j (by omega)
    · exact ⟨0, by simp, by simpa [fn, rd] using hx, fun j hj => absurd hj (by omega)⟩
theorem rowP_facts {p : Int} (hp : primeB p = true) {w : Nat} {a : List Int} (ha : a.length = w ∧ ∀ x ∈ a, 0 ≤ x ∧ x < p) (hz : ¬ (a.all fun x => x == 0) = true) :
    numsB p (rowP p a) w = true ∧ monicB (rowP p a) = true ∧ ∀ L, Sp p w L (fn a) → Sp p w L (fn (rowP p a)) := by
  have hb := Z1 hp
  obtain ⟨c, h1, h2, h3⟩ := first_ne a hz
  have hrow := rowP_at (p := p) h1 h3 h2
  have hc := Z3 ha c (by omega)
  obtain ⟨_, i0, i1, i2, _⟩ := Z15 hp hc.1 hc.2
  have hs := Z30 (p := p) (b := invP p (rd a (c : Int))) (by omega) ha.1
  have hf : ∀ j, j < w → fn (rowP p a) j = fn a j * invP p (fn a c) % p := fun j hj => by rw [hrow]; exact fn_scale ha.1 hj
  rw [hrow] at hf ⊢
  refine ⟨Z85 hp hs.1 hs.2, Z73 _ c (by rw [hs.1]; omega) (by rw [hf c (by omega)]; exact i2 h2) (fun j hj => by rw [hf j (by omega), h3 j hj]; simp), fun L hL => ?_⟩
  refine (hL.scale (invP p (fn a c))).congr fun j hj => ?_
  rw [hf j hj]
  exact dvd_one (-1) (Z8 (fn a j * invP p (fn a c)) p) (by rw [Int.mul_comm (invP p (fn a c))]; omega)
theorem meet_fn (p : Int) (t l : List Int) (j : Nat) (hj : j < 4) : fn (meetRow p t l) j = (fn t 0 * fn l j + fn t 1 * fn l (4 + j)) % p := by
  rw [fn, rd_at _ j (by simpa [meetRow] using hj)]; simp [meetRow]
theorem meet_ok {p : Int} (hp : 0 < p) (t l : List Int) : (meetRow p t l).length = 4 ∧ ∀ x ∈ meetRow p t l, 0 ≤ x ∧ x < p := by
  refine ⟨by simp [meetRow], fun x hx => ?_⟩
  obtain ⟨j, _, rfl⟩ := List.mem_map.1 hx
  exact ⟨Int.emod_nonneg _ (by omega), Int.emod_lt_of_pos _ (by omega)⟩
theorem sp_two {p : Int} (l : List Int) (x y : Int) {v : Nat → Int} (h : ∀ j, j < 4 → p ∣ v j - (x * fn l j + y * fn l (4 + j))) : Sp p 4 [l.take 4, l.drop 4] v := by
  refine Sp.congr (u := fun j => x * fn (l.take 4) j + y * fn (l.drop 4) j) (((Sp.mem (by simp)).scale x).sum ((Sp.mem (by simp)).scale y)) fun j hj => ?_
  rw [fn_take l 4 j hj, fn_drop]
  exact h j hj
theorem rel_place {p : Int} {l m t : List Int} (hl : lineB p l = true) (hm : lineB p m = true) (e : Int) (he : e = 1 ∨ e = -1) (ht : ¬ ∀ i, i < 4 → p ∣ fn t i)
    (hrel : ∀ j, j < 4 → p ∣ (fn t 0 * fn l j + fn t 1 * fn l (4 + j)) + e * (fn t 2 * fn m j + fn t 3 * fn m (4 + j))) :
    ¬ ((meetRow p t l).all fun x => x == 0) = true ∧ placeB p (rowP p (meetRow p t l)) = true ∧ Sp p 4 [l.take 4, l.drop 4] (fn (rowP p (meetRow p t l))) ∧ Sp p 4 [m.take 4, m.drop 4] (fn (rowP p (meetRow p t l))) := by
  have hn := Z2 hl
  have hp := (Z0 hn).1
  have hb := Z1 hp
  have hok := meet_ok (p := p) (by omega) t l
  have hz : ¬ ((meetRow p t l).all fun x => x == 0) = true := fun hz => by
    have h0 : ∀ j, j < 4 → p ∣ fn t 0 * fn l j + fn t 1 * fn l (4 + j) := fun j hj => by
      have h1 := List.all_eq_true.1 hz ((meetRow p t l)[j]'(by rw [hok.1]; exact hj)) (List.getElem_mem _)
      have h2 : fn (meetRow p t l) j = 0 := by rw [fn, rd_at _ j (by rw [hok.1]; exact hj)]; simpa using h1
      rw [meet_fn p t l j hj] at h2
      exact Int.dvd_of_emod_eq_zero h2
    have a := Z52 hl (x := fn t 0) (y := fn t 1) fun j hj => by rw [fn_take l 4 j hj, fn_drop]; exact h0 j hj
    have b := Z52 hm (x := fn t 2) (y := fn t 3) fun j hj => by
      rw [fn_take m 4 j hj, fn_drop]
      rcases he with rfl | rfl
      · exact dvd_lin 1 (-1) (hrel j hj) (h0 j hj) (by omega)
      · exact dvd_lin (-1) 1 (hrel j hj) (h0 j hj) (by omega)
    refine ht fun i hi => ?_
    match i, hi with
    | 0, _ => exact a.1
    | 1, _ => exact a.2
    | 2, _ => exact b.1
    | 3, _ => exact b.2
  obtain ⟨f1, f2, f3⟩ := rowP_facts hp hok hz
  refine ⟨hz, by rw [placeB, f1, f2]; rfl, f3 _ (sp_two l (fn t 0) (fn t 1) fun j hj => ?_), f3 _ (sp_two m (-e * fn t 2) (-e * fn t 3) fun j hj => ?_)⟩
  · rw [meet_fn p t l j hj]
    exact dvd_one (-1) (Z8 (fn t 0 * fn l j + fn t 1 * fn l (4 + j)) p) (by omega)
  · rw [meet_fn p t l j hj]
    refine dvd_lin (-1) 1 (Z8 (fn t 0 * fn l j + fn t 1 * fn l (4 + j)) p) (hrel j hj) ?_
    generalize (fn t 0 * fn l j + fn t 1 * fn l (4 + j)) = q
    generalize q % p = q2
    grind
theorem one_place {p : Int} {l m a b : List Int} (hc : crossB p l m = true) (ha : placeB p a = true) (hb : placeB p b = true) (al : Sp p 4 [l.take 4, l.drop 4] (fn a)) (am : Sp p 4 [m.take 4, m.drop 4] (fn a)) (bl : Sp p 4 [l.take 4, l.drop 4] (fn b)) (bm : Sp p 4 [m.take 4, m.drop 4] (fn b)) : a = b := by
  rw [crossB, Bool.and_eq_true, Bool.and_eq_true] at hc
  obtain ⟨⟨hl, hm⟩, h3⟩ := hc
  by_cases hne : a = b
  · exact hne
  · exfalso
    have e1 := Z49 hl ha hb hne al bl
    have e2 := Z49 hm ha hb hne am bm
    have e : l = m := e1.symm.trans e2
    subst e
    have h3 := of_decide_eq_true h3
    have hn := Z2 hl
    have := rank_mono (Z0 hn).1 (four_ok hn hn) (Z5 hn) (fun r hr => Sp.mem (by
      simp only [List.mem_cons, List.not_mem_nil, or_false] at hr ⊢
      rcases hr with h | h | h | h <;> simp [h]))
    have h2 := rank_le (p := p) (w := 4) [l.take 4, l.drop 4]
    simp at h2
    omega
theorem Z63 {p : Int} {l m : List Int} (hc : crossB p l m = true) :
    placeP p l m = (rowP p (meetRow p (relP p l m) l), true) ∧ placeB p (rowP p (meetRow p (relP p l m) l)) = true ∧ Sp p 4 [l.take 4, l.drop 4] (fn (rowP p (meetRow p (relP p l m) l))) ∧ Sp p 4 [m.take 4, m.drop 4] (fn (rowP p (meetRow p (relP p l m) l))) := by
  have hc0 := hc
  rw [crossB, Bool.and_eq_true, Bool.and_eq_true] at hc
  obtain ⟨⟨hl, hm⟩, h3⟩ := hc
  have h3 := of_decide_eq_true h3
  have hnl := Z2 hl
  have hnm := Z2 hm
  have hp := (Z0 hnl).1
  have hbd := Z1 hp
  have hok := rows4_ok hnl hnm
  have hne := rel_ne hp hok (by show rankP p 4 (rows4 l m) < _; rw [show rankP p 4 (rows4 l m) = 3 from h3]; simp [rows4])
  obtain ⟨N, e, hN, h4, _⟩ := Z20 hp (tr_ok hok)
  have hlen : (rows4 l m).length = 4 := rfl
  rw [hlen] at e hN h4 hne
  match N, e, hN, h4 with
  | [], e, _, _ => exact absurd e hne
  | z :: N, e, hN, h4 =>
    have et : relP p l m = z.2 := by rw [relP, e]; rfl
    rw [et]
    have hr := rel_place (t := z.2) hl hm 1 (.inl rfl) (fun h => by
      have := h z.1 (hN.lt z (by simp))
      rw [hN.one z (by simp)] at this
      exact Z10 (by omega) this) (fun j hj => by
      have hd := h4 z (by simp) [fn l j, fn l (4 + j), fn m j, fn m (4 + j)] (by rw [tr_rows4]; exact List.mem_map.2 ⟨j, by simpa using hj, rfl⟩)
      have e2 : dt 4 (fn [fn l j, fn l (4 + j), fn m j, fn m (4 + j)]) (fn z.2) = fn l j * fn z.2 0 + (fn l (4 + j) * fn z.2 1 + (fn m j * fn z.2 2 + (fn m (4 + j) * fn z.2 3 + 0))) := rfl
      rw [e2] at hd
      exact dvd_one 1 hd (by grind))
    refine ⟨?_, hr.2⟩
    rw [placeP, if_pos hc0, et, monP, if_neg hr.1]
theorem Z17 {p : Int} (hp : p = 7 ∨ p = 13 ∨ p = 19 ∨ p = 31) {i j : Nat} (hi : i < 27) (hj : j < 27) (h : bitC i j = true) : crossB p (lineC p (i : Int)) (lineC p (j : Int)) = true := (Z25 hp hi hj).trans h
theorem Z35 {p : Int} (hp : p = 7 ∨ p = 13 ∨ p = 19 ∨ p = 31) {i j : Nat} (hi : i < 27) (hj : j < 27) (h : bitC i j = true) : numsB p (placeC p i j) 4 = true := by
  have hc := Z63 (Z17 hp hi hj h)
  rw [placeC, hc.1]
  exact (Z19 hc.2.1).1
theorem Z57 (l : List Int) (h : 4 ≤ l.length) : impl_rowsOf.f l = some [l.take 4, l.drop 4] := by
  rw [impl_rowsOf.f, if_pos (by omega)]
theorem crosses_ev {p : Int} {l m : List Int} (hl : numsB p l 8 = true) (hm : numsB p m 8 = true) : Ev (fun k => impl_crosses.f k p l m) (decide (rankP p 4 [l.take 4, l.drop 4, m.take 4, m.drop 4] = 3)) := by
  unfold impl_crosses.f
  refine Ev.bind (Ev.k (Z57 l (by have := (Z0 hl).2.1; omega))) (Ev.bind (Ev.k (Z57 m (by have := (Z0 hm).2.1; omega))) (Ev.yes (by simp) ?_))
  refine Ev.bind (Z40 (Z0 hl).1 (w := 4) _ (by omega) (by simp) (four_ok hl hm)) ?_
  have e : (((redP p 4 0 ([l.take 4, l.drop 4] ++ [m.take 4, m.drop 4]) []).length : Int) == 3) = decide (rankP p 4 [l.take 4, l.drop 4, m.take 4, m.drop 4] = 3) := by
    rw [rankP, Bool.eq_iff_iff]; simp; omega
  rw [e]; exact Ev.now _
theorem mapO_ev {α β : Type} {f : Nat → α → Option β} {g : α → β} : ∀ l : List α, (∀ x ∈ l, Ev (fun k => f k x) (g x)) → Ev (fun k => mapO (f k) l) (l.map g)
  | [], _ => Ev.now _
  | x :: l, h => by
    show Ev (fun k => (f k x).bind fun b => (mapO (f k) l).bind fun r => some (b :: r)) (g x :: l.map g)
    exact Ev.bind (h x List.mem_cons_self) (Ev.bind (mapO_ev l fun y hy => h y (List.mem_cons_of_mem _ hy)) (Ev.now _))
theorem tabCell_ev {p : Int} (hp : p = 7 ∨ p = 13 ∨ p = 19 ∨ p = 31) {i j : Nat} (hi : i < 27) (hj : j < 27) : Ev (fun k => tabCell k p (rootsT p) i j) (cellC p i j) := by
  unfold tabCell
  by_cases e : i = j
  · subst e
    rw [cell_self hp hi]
    exact Ev.yes rfl (Ev.now _)
  · refine Ev.no e (Ev.bind (Z13 hp (by omega) (by omega)) (Ev.bind (Z13 hp (by omega) (by omega)) ?_))
    rw [← cell_rank hp hi hj]
    exact crosses_ev (Z21 hp hi) (Z21 hp hj)
def tabT (p : Int) : List Bool := (List.range 729).map fun n => cellC p (n / 27) (n % 27)
theorem cubeTable_ev {p : Int} (hp : p = 7 ∨ p = 13 ∨ p = 19 ∨ p = 31) : Ev (fun k => impl_cubeTable.f k p (rootsT p)) (tabT p) := by
  unfold impl_cubeTable.f tabT
  refine mapO_ev _ fun n hn => ?_
  have := List.mem_range.1 hn
  exact tabCell_ev hp (by omega) (by omega)
theorem Z76 {p : Int} {i j : Nat} (hi : i < 27) (hj : j < 27) : (tabT p).getD (27 * i + j) false = cellC p i j := by
  rw [tabT, List.getD_eq_getElem?_getD, List.getElem?_map, List.getElem?_range (by omega)]
  show cellC p ((27 * i + j) / 27) ((27 * i + j) % 27) = _
  rw [show (27 * i + j) / 27 = i by omega, show (27 * i + j) % 27 = j by omega]
theorem isOn_ev {p : Int} {a l : List Int} (hl : numsB p l 8 = true) (ha : numsB p a 4 = true) : Ev (fun k => impl_isOn.f k p a l) (decide (rankP p 4 [l.take 4, l.drop 4, a] = 2)) := by
  unfold impl_isOn.f
  refine Ev.bind (Ev.k (Z57 l (by have := (Z0 hl).2.1; omega))) (Ev.yes (by simp) ?_)
  refine Ev.bind (Z40 (Z0 hl).1 (w := 4) _ (by omega) (by simp) (three_ok hl ha)) ?_
  have e : (((redP p 4 0 ([l.take 4, l.drop 4] ++ [a]) []).length : Int) == 2) = decide (rankP p 4 [l.take 4, l.drop 4, a] = 2) := by
    rw [rankP, Bool.eq_iff_iff]; simp; omega
  rw [e]; exact Ev.now _
theorem starI_18 : ∀ p ∈ ([7, 13, 19, 31] : List Int), sumN (fun i => sumN (fun j => sumN (starI p i j) j) i) 27 = 18 := by decide +kernel
theorem starOne_ev {p : Int} (hp : p = 7 ∨ p = 13 ∨ p = 19 ∨ p = 31) {i j k : Nat} (hi : i < 27) (hj : j < 27) (hk : k < 27) : Ev (fun n => starOne n p (rootsT p) (tabT p) i j k) (starI p i j k) := by
  unfold starOne starI
  rw [Z76 hi hj, Z76 hi hk, Z76 hj hk, Z25 hp hi hj, Z25 hp hi hk, Z25 hp hj hk]
  by_cases h : bitC i j = true ∧ bitC i k = true ∧ bitC j k = true
  · rw [if_pos h]
    have hc := Z17 hp hi hj h.1
    have hn := Z35 hp hi hj h.1
    have h3 : rankP p 4 (rows4 (lineC p (i : Int)) (lineC p (j : Int))) = 3 := by
      rw [crossB, Bool.and_eq_true] at hc
      exact of_decide_eq_true hc.2
    have hcp := Z66 (Z21 hp hi) (Z21 hp hj) h3
    rw [show monP p (meetRow p (relP p (lineC p (i : Int)) (lineC p (j : Int))) (lineC p (i : Int))) = placeC p i j by rw [placeC, placeP, if_pos hc]] at hcp
    exact Ev.yes h (Ev.bind (Z13 hp (by omega) (by omega)) (Ev.bind (Z13 hp (by omega) (by omega)) (Ev.bind hcp (Ev.bind (Z13 hp (by omega) (by omega)) (Ev.bind (isOn_ev (Z21 hp hk) hn) (Ev.now _))))))
  · rw [if_neg h]
    exact Ev.no h (Ev.now _)
theorem sumO_ev {f : Nat → Nat → Option Int} {g : Nat → Int} : ∀ n, (∀ i, i < n → Ev (fun k => f k i) (g i)) → Ev (fun k => sumO (f k) n) (sumN g n)
  | 0, _ => Ev.now _
  | n + 1, h => by
    show Ev (fun k => (sumO (f k) n).bind fun a => (f k n).bind fun b => some (a + b)) (sumN g n + g n)
    exact Ev.bind (sumO_ev n fun i hi => h i (by omega)) (Ev.bind (h n (by omega)) (Ev.now _))
theorem Z89 (p : Int) : Ev (fun n => impl_CubeStars.f n p) (starsP p) := by
  unfold impl_CubeStars.f starsP
  refine Ev.bind (iRoots_ev p) ?_
  rcases Z50 p with h | h
  · rw [h, if_neg (by simp)]; exact Ev.no (by simp) (Ev.now _)
  · have hl : (rootsT p).length = 3 := by rcases h with rfl | rfl | rfl | rfl <;> rfl
    have hne : rootsT p ≠ [] := by intro e; rw [e] at hl; simp at hl
    rw [if_pos hne]
    refine Ev.yes hl (Ev.bind (cubeTable_ev h) (Ev.bind (a := 18) ?_ (Ev.now _)))
    rw [← starI_18 p (by simp; omega)]
    refine sumO_ev 27 fun i hi => ?_
    unfold star1
    refine sumO_ev i fun j hj => ?_
    unfold star2
    exact sumO_ev j fun k hk => starOne_ev h (by omega) (by omega) (by omega)
theorem sRoots_table : ∀ p ∈ ([7, 11, 13, 17, 19, 23, 29, 31] : List Int), spec_CubeRoots.f 60 p = some (rootsT p, decide (rootsT p ≠ [])) := by decide +kernel
theorem sRoots_ev (p : Int) : Ev (fun k => spec_CubeRoots.f k p) (rootsT p, decide (rootsT p ≠ [])) := by
  cases hp : primeB p with
  | true => exact Ev.of (spec_CubeRoots.mono p) (sRoots_table p (by have := Z12 hp; simp; omega))
  | false =>
    unfold spec_CubeRoots.f
    refine Ev.bind (Ev.k (Z74 p)) ?_
    rw [hp, Z68 hp]
    exact Ev.no (by simp) (Ev.now _)
theorem starS_18 : ∀ p ∈ ([7, 13, 19, 31] : List Int), sumR (fun i => sumR (fun j => sumR (starS p i j) (26 - j) (j + 1)) (26 - i) (i + 1)) 27 0 = 18 := by decide +kernel
theorem Z80 : ∀ p ∈ ([7, 13, 19, 31] : List Int), ∀ k ∈ List.range 27, spec_l8Line.f 60 p (rootsT p) (k : Int) = some (lineC p (k : Int)) := by decide +kernel
theorem sl8Line_ev {p k : Int} (hp : p = 7 ∨ p = 13 ∨ p = 19 ∨ p = 31) (h0 : 0 ≤ k) (h1 : k < 27) : Ev (fun n => spec_l8Line.f n p (rootsT p) k) (lineC p k) := by
  have h := Z80 p (by simp; omega) k.toNat (by simp; omega)
  rw [show ((k.toNat : Nat) : Int) = k by omega] at h
  exact Ev.of (spec_l8Line.mono _ _ _) h
theorem l7Rank_ev {p : Int} (hp : primeB p = true) {L : List (List Int)} (hL : okR p 4 L) (hl : L.length < 1000000) : Ev (fun k => spec_l7Rank.f k p L) (rankP p 4 L : Int) := by
  unfold spec_l7Rank.f
  exact Ev.bind (Z24 hp (w := 4) (by omega) L hL hl) (Ev.now _)
theorem l7Same_l (a b : List Int) (hab : a.length ≤ b.length) (hl : a.length ≤ 1000000000) : ∀ (d i : Nat), i + d = a.length → Ev (fun k => spec_l7Same.l0 k a b (i : Int)) (decide (a.drop i = (b.take a.length).drop i))
  | 0, i, h => by
    refine Ev.step (f := fun _ => some true) (fun k => ?_) ?_
    · rw [spec_l7Same.l0, if_neg (by omega)]
    · rw [List.drop_eq_nil_of_le (by omega), List.drop_eq_nil_of_le (by simp; omega)]; exact Ev.now _
  | d + 1, i, h => by
    have ih := l7Same_l a b hab hl d (i + 1) (by omega)
    have e : rd (b.take a.length) (i : Int) = rd b (i : Int) := by
      rw [rd_at _ i (by simp; omega), rd_at b i (by omega)]; simp
    rw [rd_drop a i (by omega), rd_drop (b.take a.length) i (by simp; omega), e]
    by_cases hz : rd a (i : Int) = rd b (i : Int)
    · refine Ev.step (f := fun k => spec_l7Same.l0 k a b ((i + 1 : Nat) : Int)) (fun k => ?_) ?_
      · rw [spec_l7Same.l0, if_pos (by omega), if_pos (by omega), if_pos (by omega), if_pos hz, wsm (by omega) (by omega)]; rfl
      · simpa [hz] using ih
    · refine Ev.step (f := fun _ => some false) (fun k => ?_) ?_
      · rw [spec_l7Same.l0, if_pos (by omega), if_pos (by omega), if_pos (by omega), if_neg hz]
      · rw [decide_eq_false (by simp [hz])]
        exact Ev.now false
theorem l7Same_ev (a b : List Int) (hab : a.length = b.length) (hl : a.length ≤ 1000000000) : Ev (fun k => spec_l7Same.f k a b) (decide (a = b)) := by
  unfold spec_l7Same.f
  have h := l7Same_l a b (by omega) hl a.length 0 (by omega)
  rw [hab, List.take_length] at h
  simpa using h
theorem low_eq {p : Int} (hp : primeB p = true) (x : Int) : lowB p x = (decide (0 ≤ x) && decide (x < p)) := by
  have hb := Z1 hp
  rw [lowB, wsm (by omega) (by omega), show decide (x ≤ p - 1) = decide (x < p) from decide_eq_decide.2 (by omega)]
theorem two_of {M : List (List Int)} (h : M.length = 2) : M = [M.getD 0 [], M.getD 1 []] := by
  match M, h with
  | [x, y], _ => rfl
theorem Z56 (p : Int) (l : List Int) : Ev (fun k => spec_SpaceIn.f k p l) (lineB p l) := by
  unfold spec_SpaceIn.f
  refine Ev.bind (Ev.k (Z74 p)) ?_
  cases hp : primeB p with
  | false =>
    refine Ev.no (by simp) ?_
    rw [show lineB p l = false from by simp [lineB, numsB, hp]]
    exact Ev.now _
  | true =>
    have hb := Z1 hp
    refine Ev.yes rfl ?_
    by_cases hl : l.length = 8
    · refine Ev.yes hl ?_
      by_cases ha : l.all (lowB p) = true
      · refine Ev.yes ha ?_
        have hn : numsB p l 8 = true := Z85 hp hl (fun x hx => by
          have h1 := List.all_eq_true.1 ha x hx
          rw [low_eq hp] at h1
          simpa using h1)
        have hok := Z5 hn
        refine Ev.bind (Z24 hp (w := 4) (by omega) _ hok (by simp)) ?_
        by_cases h2 : (redP p 4 0 [l.take 4, l.drop 4] []).length = 2
        · refine Ev.yes h2 ?_
          have hro := redP_ok (p := p) (by omega) 4 0 _ [] hok (okR_nil p 4)
          have e := two_of h2
          have hx := hro ((redP p 4 0 [l.take 4, l.drop 4] []).getD 0 []) (Z7 (by omega))
          have hy := hro ((redP p 4 0 [l.take 4, l.drop 4] []).getD 1 []) (Z7 (by omega))
          refine Ev.yes ⟨Nat.lt_of_le_of_lt (Nat.le_of_eq hx.1) (by omega), Nat.lt_of_le_of_lt (Nat.le_of_eq hy.1) (by omega)⟩ ?_
          have e2 : spanP p 4 [l.take 4, l.drop 4] = (redP p 4 0 [l.take 4, l.drop 4] []).getD 0 [] ++ (redP p 4 0 [l.take 4, l.drop 4] []).getD 1 [] := by
            rw [spanP]
            conv => lhs; rw [e]
            simp
          rw [lineB, hn, Bool.true_and, e2]
          exact l7Same_ev _ _ (by rw [List.length_append, hx.1, hy.1, hl]) (by rw [List.length_append, hx.1, hy.1]; omega)
        · refine Ev.no h2 ?_
          rw [show lineB p l = false from by
            cases hh : lineB p l with
            | false => rfl
            | true => exact absurd (Z60 hh) h2]
          exact Ev.now _
      · refine Ev.no ha ?_
        rw [show lineB p l = false from by
          cases hh : lineB p l with
          | false => rfl
          | true =>
            refine absurd (List.all_eq_true.2 fun x hx => ?_) ha
            rw [low_eq hp]
            simpa using (Z0 (Z2 hh)).2.2 x hx]
        exact Ev.now _
    · refine Ev.no hl ?_
      rw [show lineB p l = false from by
        cases hh : lineB p l with
        | false => rfl
        | true => exact absurd (Z0 (Z2 hh)).2.1 hl]
      exact Ev.now _
theorem Z32 (p : Int) (l m : List Int) : Ev (fun k => spec_SpaceCross.f k p l m) (crossB p l m) := by
  unfold spec_SpaceCross.f crossB
  refine Ev.bind (Z56 p l) ?_
  cases hl : lineB p l with
  | false => exact Ev.no (by simp) (Ev.now _)
  | true =>
    refine Ev.yes rfl (Ev.bind (Z56 p m) ?_)
    cases hm : lineB p m with
    | false => exact Ev.no (by simp) (Ev.now _)
    | true =>
      have h1 := Z0 (Z2 hl)
      have h2 := Z0 (Z2 hm)
      refine Ev.yes rfl (Ev.yes (by omega) (Ev.yes (by omega) (Ev.bind (l7Rank_ev h1.1 (four_ok (Z2 hl) (Z2 hm)) (by simp)) ?_)))
      have e : ((rankP p 4 [l.take 4, l.drop 4, m.take 4, m.drop 4] : Int) == 3) = decide (rankP p 4 [l.take 4, l.drop 4, m.take 4, m.drop 4] = 3) := by
        rw [Bool.eq_iff_iff]; simp; omega
      rw [e]; exact Ev.now _
def linesT (p : Int) (n : Nat) : List (List Int) := (List.range n).map fun (k : Nat) => lineC p (k : Int)
theorem Z45 (p : Int) (n : Nat) : (linesT p n).length = n := by simp [linesT]
theorem l8Lines_l {p : Int} (hp : p = 7 ∨ p = 13 ∨ p = 19 ∨ p = 31) : ∀ (d i : Nat), i + d = 27 → Ev (fun k => spec_l8Lines.l0 k p (rootsT p) (linesT p i) (i : Int)) (linesT p 27)
  | 0, i, e => by
    obtain rfl : i = 27 := by omega
    exact Ev.step (f := fun _ => some (linesT p 27)) (fun k => by rw [spec_l8Lines.l0, if_neg (by omega)]) (Ev.now _)
  | d + 1, i, e => by
    have ih := l8Lines_l hp d (i + 1) (by omega)
    have hn := Z45 p i
    refine Ev.step (fun k => by rw [spec_l8Lines.l0, if_pos (by omega)]) ?_
    refine Ev.bind (sl8Line_ev hp (by omega) (by omega)) (Ev.yes (by omega) ?_)
    rw [wsm (by omega) (by omega), show linesT p i ++ [lineC p (i : Int)] = linesT p (i + 1) by simp [linesT, List.range_succ]]
    simpa using ih
theorem Z72 {p : Int} (hp : p = 7 ∨ p = 13 ∨ p = 19 ∨ p = 31) : Ev (fun k => spec_l8Lines.f k p (rootsT p)) (linesT p 27) := l8Lines_l hp 27 0 rfl
theorem Z28 {p : Int} {i : Nat} (hi : i < 27) : rd_L1 (linesT p 27) (i : Int) = lineC p (i : Int) := by
  rw [rd_L1, linesT, List.getD_eq_getElem?_getD, List.getElem?_map, List.getElem?_range (by omega)]; rfl
def rowT (p : Int) (i n : Nat) : List Bool := (List.range n).map (cellC p i)
def tabS (p : Int) (n : Nat) : List (List Bool) := (List.range n).map (rowC p)
theorem tabS_len (p : Int) (n : Nat) : (tabS p n).length = n := by simp [tabS]
theorem rowT_len (p : Int) (i n : Nat) : (rowT p i n).length = n := by simp [rowT]
theorem Z70 {p : Int} (hp : p = 7 ∨ p = 13 ∨ p = 19 ∨ p = 31) {i : Nat} (hi : i < 27) (next : Ev (fun k => spec_l8Table.l0 k p (linesT p 27) (tabS p (i + 1)) ((i + 1 : Nat) : Int)) (tabS p 27)) : ∀ (d j : Nat), j + d = 27 → Ev (fun k => spec_l8Table.l1 k p (linesT p 27) (tabS p i) (i : Int) (rowT p i j) (j : Int)) (tabS p 27)
  | 0, j, e => by
    obtain rfl : j = 27 := by omega
    have hn := tabS_len p i
    refine Ev.step (fun k => by rw [spec_l8Table.l1, if_neg (show ¬ ((27 : Nat) : Int) < 27 by omega)]) ?_
    refine Ev.yes (by omega) ?_
    rw [wsm (by omega) (by omega), show tabS p i ++ [rowT p i 27] = tabS p (i + 1) by simp [tabS, List.range_succ, rowT, rowC]]
    simpa using next
  | d + 1, j, e => by
    have ih := Z70 hp hi next d (j + 1) (by omega)
    have hl := Z45 p 27
    have hn := rowT_len p i j
    refine Ev.step (fun k => by rw [spec_l8Table.l1, if_pos (show (j : Int) < 27 by omega)]) ?_
    refine Ev.yes (by omega) (Ev.yes (by omega) (Ev.yes (by omega) (Ev.yes (by omega) ?_)))
    rw [Z28 hi, Z28 (show j < 27 by omega)]
    refine Ev.bind (Z32 _ _ _) (Ev.yes (by omega) ?_)
    rw [wsm (by omega) (by omega), show rowT p i j ++ [crossB p (lineC p (i : Int)) (lineC p (j : Int))] = rowT p i (j + 1) by simp [rowT, List.range_succ, cellC]]
    simpa using ih
theorem Z71 {p : Int} (hp : p = 7 ∨ p = 13 ∨ p = 19 ∨ p = 31) : ∀ (d i : Nat), i + d = 27 → Ev (fun k => spec_l8Table.l0 k p (linesT p 27) (tabS p i) (i : Int)) (tabS p 27)
  | 0, i, e => by
    obtain rfl : i = 27 := by omega
    exact Ev.step (f := fun _ => some (tabS p 27)) (fun k => by rw [spec_l8Table.l0, if_neg (by omega)]) (Ev.now _)
  | d + 1, i, e => by
    have ih := Z71 hp d (i + 1) (by omega)
    refine Ev.step (fun k => by rw [spec_l8Table.l0, if_pos (by omega)]) ?_
    exact Z70 hp (by omega) ih 27 0 rfl
theorem l8Table_ev {p : Int} (hp : p = 7 ∨ p = 13 ∨ p = 19 ∨ p = 31) : Ev (fun k => spec_l8Table.f k p (rootsT p)) (tabS p 27) := by
  unfold spec_l8Table.f
  exact Ev.bind (Z72 hp) (Z71 hp 27 0 rfl)
theorem tabS_at {p : Int} {i : Nat} (hi : i < 27) : rd_L4 (tabS p 27) (i : Int) = rowC p i := by
  rw [rd_L4, tabS, List.getD_eq_getElem?_getD, List.getElem?_map, List.getElem?_range (by omega)]; rfl
theorem rowC_at {p : Int} {i j : Nat} (hj : j < 27) : rdOf false (rowC p i) (j : Int) = cellC p i j := by
  rw [rdOf, rowC, List.getD_eq_getElem?_getD, List.getElem?_map, List.getElem?_range (by omega)]; rfl
theorem rowC_len (p : Int) (i : Nat) : (rowC p i).length = 27 := by simp [rowC]
theorem s_map_snd (P : List (Nat × List Int)) (i : Nat) (hi : i < P.length) : rd_L1 (P.map Prod.snd) (i : Int) = (P[i]).2 := by
  simp [rd_L1, List.getD_eq_getElem?_getD, hi]
theorem s_map_fst (P : List (Nat × List Int)) (i : Nat) (hi : i < P.length) : rd (P.map fun x => (x.1 : Int)) (i : Int) = ((P[i]).1 : Int) := by
  simp [rd, List.getD_eq_getElem?_getD, hi]
theorem Z67 {p : Int} {w : Nat} {P : List (Nat × List Int)} (h : Rref p w P) : P.length ≤ w := by
  have h1 := Z6 (P := P) (Q := (List.range w).map fun c => (c, ([] : List Int))) h.inc (by rw [List.pairwise_map]; exact List.pairwise_lt_range) (fun x hx => ⟨(x.1, []), List.mem_map.2 ⟨x.1, by simpa using h.lt x hx, rfl⟩, rfl⟩)
  simpa using h1
theorem s_neg {p : Int} (hp : primeB p = true) {x : Int} (h0 : 0 ≤ x) (h1 : x < p) : spec_l4Mod.f p (wrap64 (-x)) = some ((-x) % p) := by
  have hb := Z1 hp
  rw [l4Mod_eq p _ (by omega), Z18 ⟨by omega, by omega⟩ (by omega) (by omega)]
theorem nulS_one {p : Int} (hp : primeB p = true) {w : Nat} (hw : w ≤ 1000) {P : List (Nat × List Int)} (h : Rref p w P) {c q : Nat} (hc : c < w) {O : List (List Int)} (hO : O.length ≤ 1000) {R : List (List Int)} : ∀ (d i : Nat) (v V : List Int), i + d = P.length → v.length = w → nullFold p c (P.drop i) v = V →
    Ev (fun k => spec_l4Null.l0 k p (w : Int) (P.map Prod.snd) (P.map fun x => (x.1 : Int)) (O ++ [V]) (q : Int) ((c + 1 : Nat) : Int)) R →
    Ev (fun k => spec_l4Null.l1 k p (w : Int) (P.map Prod.snd) (P.map fun x => (x.1 : Int)) O (q : Int) (c : Int) v (i : Int)) R
  | 0, i, v, V, e, hv, hV, hend => by
    rw [List.drop_eq_nil_of_le (by omega), nullFold] at hV
    subst hV
    refine Ev.step (fun k => by rw [spec_l4Null.l1, if_neg (by rw [List.length_map]; omega), if_pos (by omega), wsm (by omega) (by omega)]) ?_
    simpa using hend
  | d + 1, i, v, V, e, hv, hV, hend => by
    have hi : i < P.length := by omega
    have hle := Z67 h
    have hm := List.getElem_mem hi
    have hlen := (h.ok _ hm).1
    have hlt := h.lt _ hm
    have hr := Z3 (h.ok _ hm) c hc
    rw [fn] at hr
    rw [List.drop_eq_getElem_cons hi, nullFold] at hV
    refine Ev.step (fun k => by rw [spec_l4Null.l1, if_pos (by rw [List.length_map]; omega), if_pos (by omega), if_pos (by rw [List.length_map]; omega), if_pos (by omega), s_map_snd P i hi, if_pos (by omega), s_map_fst P i hi, s_neg hp hr.1 hr.2]) ?_
    refine Ev.bind (a := (-(rd (P[i]).2 (c : Int))) % p) (Ev.now _) (Ev.yes (by omega) (Ev.yes (by omega) ?_))
    have ih := nulS_one hp hw h hc hO d (i + 1) (v.set (P[i]).1 ((-(rd (P[i]).2 (c : Int))) % p)) V (by omega) (by rw [List.length_set]; exact hv) hV hend
    rw [wsm (by omega) (by omega)]
    simpa using ih
theorem nulS_free {P : List (Nat × List Int)} {c q : Nat} (h1 : ∀ j : Nat, ∀ hj : j < P.length, j < q → (P[j]).1 < c) (h2 : ∀ j : Nat, ∀ hj : j < P.length, q ≤ j → c < (P[j]).1) : freeC P c = true := free_of (by
  rintro ⟨z, hz, e⟩
  obtain ⟨j, hj, rfl⟩ := List.mem_iff_getElem.1 hz
  rcases Nat.lt_or_ge j q with h | h
  · have := h1 j hj h; omega
  · have := h2 j hj h; omega)
theorem Z59 {p : Int} (hp : primeB p = true) {w : Nat} (hw : w ≤ 1000) {P : List (Nat × List Int)} (h : Rref p w P) : ∀ (d c q : Nat) (O : List (List Int)), c + d = w → q ≤ P.length → (∀ j : Nat, ∀ hj : j < P.length, j < q → (P[j]).1 < c) → (∀ j : Nat, ∀ hj : j < P.length, q ≤ j → c ≤ (P[j]).1) → O = (((List.range c).filter (freeC P)).map (nullVec p w P)) →
    Ev (fun k => spec_l4Null.l0 k p (w : Int) (P.map Prod.snd) (P.map fun x => (x.1 : Int)) O (q : Int) (c : Int)) (redP p w 0 (nullRows p w P) [])
  | 0, c, q, O, e, hq, h1, h2, hO => by
    obtain rfl : c = w := by omega
    have hb := Z1 hp
    refine Ev.step (fun k => by rw [spec_l4Null.l0, if_neg (by omega)]) ?_
    have hlen : O.length < 1000000 := by
      rw [hO, List.length_map]
      have := List.length_filter_le (freeC P) (List.range c)
      simp at this; omega
    have hok := Z23 (p := p) (by omega) h
    subst hO
    exact Ev.bind (Z24 hp hw _ hok hlen) (Ev.now _)
  | d + 1, c, q, O, e, hq, h1, h2, hO => by
    have hle := Z67 h
    have hOl : O.length ≤ 1000 := by
      rw [hO, List.length_map]
      have := List.length_filter_le (freeC P) (List.range c)
      simp at this; omega
    have hsucc : (List.range (c + 1)).filter (freeC P) = (List.range c).filter (freeC P) ++ (if freeC P c = true then [c] else []) := by
      rw [List.range_succ, List.filter_append]
      congr 1
      cases hf : freeC P c <;> simp [hf]
    have hnot : (∀ j : Nat, ∀ hj : j < P.length, q ≤ j → c < (P[j]).1) → Ev (fun k => spec_l4Null.j1 k p (w : Int) (P.map Prod.snd) (P.map fun x => (x.1 : Int)) O (q : Int) (c : Int) false) (redP p w 0 (nullRows p w P) []) := fun h3 => by
      have hf := nulS_free h1 h3
      refine Ev.step (fun k => by rw [spec_l4Null.j1, if_neg (by simp)]) ?_
      refine (Ev.yes (by omega) (Ev.yes (by omega) (Ev.bind (a := List.replicate w 0) (by simpa using Ev.now (List.replicate w (0 : Int))) (Ev.yes (by omega) (Ev.yes (by simp; omega) ?_)))))
      have hend := Z59 hp hw h d (c + 1) q (O ++ [nullVec p w P c]) (by omega) hq (fun j hj hjq => by have := h1 j hj hjq; omega) (fun j hj hjq => by have := h3 j hj hjq; omega) (by rw [hsucc, hf, hO]; simp)
      have := nulS_one hp hw h (c := c) (q := q) (by omega) hOl (R := redP p w 0 (nullRows p w P) []) P.length 0 ((List.replicate w 0).set c 1) (nullVec p w P c) (by omega) (by simp) (by rw [List.drop_zero]; rfl) hend
      simpa using this
    by_cases hql : q < P.length
    · refine Ev.step (fun k => by rw [spec_l4Null.l0, if_pos (by omega), if_pos (by rw [List.length_map]; omega), if_pos (by omega), s_map_fst P q hql]) ?_
      by_cases hh : (P[q]).1 = c
      · rw [show (((P[q]).1 : Int) == (c : Int)) = true from by simp [hh]]
        have hf : freeC P c = false := by
          cases hf : freeC P c with
          | false => rfl
          | true => exact absurd hh (Z39 hf _ (List.getElem_mem hql))
        refine Ev.step (fun k => by rw [spec_l4Null.j1, if_pos rfl]) ?_
        rw [wsm (by omega) (by omega), wsm (by omega) (by omega)]
        refine Z59 hp hw h d (c + 1) (q + 1) O (by omega) (by omega) (fun j hj hjq => ?_) (fun j hj hjq => ?_) (by rw [hsucc, hf, hO]; simp)
        · rcases Nat.lt_succ_iff_lt_or_eq.1 hjq with h3 | h3
          · have := h1 j hj h3; omega
          · subst h3; omega
        · have hlt : q < j := by omega
          have := (List.pairwise_iff_getElem.1 h.inc) q j hql hj hlt
          omega
      · rw [show (((P[q]).1 : Int) == (c : Int)) = false from by simp; omega]
        refine hnot fun j hj hjq => ?_
        have hq2 := h2 q hql (Nat.le_refl _)
        rcases Nat.lt_or_ge q j with h3 | h3
        · have := (List.pairwise_iff_getElem.1 h.inc) q j hql hj h3
          omega
        · obtain rfl : j = q := by omega
          omega
    · refine Ev.step (fun k => by rw [spec_l4Null.l0, if_pos (by omega), if_neg (by rw [List.length_map]; omega)]) ?_
      exact hnot fun j hj hjq => by omega
theorem l4Null_ev {p : Int} (hp : primeB p = true) {w : Nat} (hw : w ≤ 1000) (L : List (List Int)) (hl : L.length < 1000000) (hL : okR p w L) : Ev (fun k => spec_l4Null.f k p L (w : Int)) (nullP p w L) := by
  obtain ⟨e1, e2, hP, _, _⟩ := Z14 hp hL
  unfold spec_l4Null.f
  refine Ev.bind (Z24 hp hw L hL hl) ?_
  rw [e1, e2]
  have h := Z59 (p := p) hp hw hP w 0 0 [] (by omega) (by omega) (fun j hj hjq => absurd hjq (by omega)) (fun j hj _ => by omega) (by simp)
  simpa [nullP] using h
def rowsS (p : Int) (l m : List Int) : List (List Int) := [l.take 4, l.drop 4, (m.take 4).map fun x => (-x) % p, (m.drop 4).map fun x => (-x) % p]
theorem neg_ok {p : Int} (hp : 0 < p) {r : List Int} (h : r.length = 4) : (r.map fun x => (-x) % p).length = 4 ∧ ∀ x ∈ r.map (fun x => (-x) % p), 0 ≤ x ∧ x < p := by
  refine ⟨by simpa using h, fun x hx => ?_⟩
  obtain ⟨y, _, rfl⟩ := List.mem_map.1 hx
  exact ⟨Int.emod_nonneg _ (by omega), Int.emod_lt_of_pos _ (by omega)⟩
theorem rowsS_ok {p : Int} {l m : List Int} (hl : numsB p l 8 = true) (hm : numsB p m 8 = true) : okR p 4 (rowsS p l m) := by
  have hb := Z1 (Z0 hl).1
  have h8 := (Z0 hm).2.1
  exact okR_app (Z5 hl) (Z9 (neg_ok (by omega) (by simp; omega)) (Z9 (neg_ok (by omega) (by simp; omega)) (okR_nil p 4)))
theorem fn_neg {p : Int} (r : List Int) (j : Nat) (hj : j < r.length) : fn (r.map fun x => (-x) % p) j = (-(fn r j)) % p := by
  rw [fn, rd_at _ j (by simpa using hj), List.getElem_map, fn, rd_at _ j hj]
theorem tr_rowsS {p : Int} {l m : List Int} (hm : m.length = 8) : tr 4 (rowsS p l m) = (List.range 4).map fun j => [fn l j, fn l (4 + j), (-(fn m j)) % p, (-(fn m (4 + j))) % p] := by
  refine List.map_congr_left fun j hj => ?_
  have hj4 : j < 4 := by simpa using hj
  simp only [rowsS, List.map_cons, List.map_nil]
  rw [fn_neg _ j (by simp; omega), fn_neg _ j (by simp; omega), fn_take l 4 j hj4, fn_drop, fn_take m 4 j hj4, fn_drop]
theorem sp_l {p : Int} (hp : primeB p = true) {l t : List Int} (hl : numsB p l 8 = true) (ht : t.length = 4 ∧ ∀ x ∈ t, 0 ≤ x ∧ x < p) : ∀ (d i : Nat), i + d = 4 →
    Ev (fun k => spec_SpacePlace.l1 k p l t ((meetRow p t l).take i) (i : Int)) (rowP p (meetRow p t l), true)
  | 0, i, e => by
    obtain rfl : i = 4 := by omega
    have hb := Z1 hp
    have hok := meet_ok (p := p) (by omega) t l
    refine Ev.step (fun k => by rw [spec_SpacePlace.l1, if_neg (by omega), List.take_of_length_le (by rw [hok.1]; omega)]) ?_
    exact Ev.bind (l4Row_ev hp _ hok.2 (by rw [hok.1]; omega)) (Ev.now _)
  | d + 1, i, e => by
    have hb := Z1 hp
    have hok := meet_ok (p := p) (by omega) t l
    have ht0 := Z3 ht 0 (by omega)
    have ht1 := Z3 ht 1 (by omega)
    have h1 := rd_w hl i (by omega)
    have h2 := rd_w hl (4 + i) (by omega)
    have m1 := mul30 (by omega) ht0.1 ht0.2 h1.1 h1.2
    have m2 := mul30 (by omega) ht1.1 ht1.2 h2.1 h2.2
    have h8 := (Z0 hl).2.1
    have ih := sp_l hp hl ht d (i + 1) (by omega)
    refine Ev.step (fun k => ?_) ih
    rw [spec_SpacePlace.l1, if_pos (by omega), if_pos (by omega), if_pos (by omega), if_pos (by omega), if_pos (by omega), wsm (i := 4 + (i : Int)) (by omega) (by omega), if_pos (by omega), if_pos (by omega), if_neg (by omega), if_pos (by rw [List.length_take, hok.1]; omega)]
    have e0 : rd t 0 = fn t 0 := rfl
    have e1 : rd t 1 = fn t 1 := rfl
    have e2 : rd l (i : Int) = fn l i := rfl
    have e3 : rd l (4 + (i : Int)) = fn l (4 + i) := by rw [fn]; congr 1
    rw [e0, e1, e2, e3, wsm (i := fn t 0 * fn l i) (by omega) (by omega), wsm (i := fn t 1 * fn l (4 + i)) (by omega) (by omega), wsm (i := fn t 0 * fn l i + fn t 1 * fn l (4 + i)) (by omega) (by omega), wsm (i := (i : Int) + 1) (by omega) (by omega)]
    have e4 : Int.tmod (fn t 0 * fn l i + fn t 1 * fn l (4 + i)) p = fn (meetRow p t l) i := by rw [meet_fn p t l i (by omega), Int.tmod_eq_emod_of_nonneg (by omega)]
    rw [e4, List.take_add_one, List.getElem?_eq_getElem (by rw [hok.1]; omega), fn, rd_at _ i (by rw [hok.1]; omega)]; rfl
theorem sc_l {p : Int} {l m : List Int} (hl : numsB p l 8 = true) (hm : numsB p m 8 = true) {R : List Int × Bool} (hend : Ev (fun k => (spec_l4Null.f k p (tr 4 (rowsS p l m)) 4).bind fun t => if 0 < (t.length : Int) then spec_SpacePlace.l1 k p l (rd_L1 t 0) [] 0 else none) R) : ∀ (d i : Nat), i + d = 4 →
    Ev (fun k => spec_SpacePlace.l0 k p l m ((List.range i).map fun j => [fn l j, fn l (4 + j), (-(fn m j)) % p, (-(fn m (4 + j))) % p]) (i : Int)) R
  | 0, i, e => by
    obtain rfl : i = 4 := by omega
    refine Ev.step (fun k => by rw [spec_SpacePlace.l0, if_neg (by omega), ← tr_rowsS (Z0 hm).2.1]) hend
  | d + 1, i, e => by
    have hp := (Z0 hl).1
    have h8 := (Z0 hl).2.1
    have h8m := (Z0 hm).2.1
    have h1 := rd_w hm i (by omega)
    have h2 := rd_w hm (4 + i) (by omega)
    have ih := sc_l hl hm hend d (i + 1) (by omega)
    have e2 : rd l (i : Int) = fn l i := rfl
    have e4 : rd m (i : Int) = fn m i := rfl
    have e3 : rd l (4 + (i : Int)) = fn l (4 + i) := by rw [fn]; congr 1
    have e5 : rd m (4 + (i : Int)) = fn m (4 + i) := by rw [fn]; congr 1
    refine Ev.step (fun k => ?_) ih
    rw [spec_SpacePlace.l0, if_pos (by omega), if_pos (by omega), if_pos (by omega), wsm (i := 4 + (i : Int)) (by omega) (by omega), if_pos (by omega), if_pos (by omega), if_pos (by omega), e2, e3, e4, e5, s_neg hp h1.1 h1.2]
    simp only [Option.bind_some]
    rw [if_pos (by omega), s_neg hp h2.1 h2.2]
    simp only [Option.bind_some]
    rw [if_pos (by simp; omega), wsm (i := (i : Int) + 1) (by omega) (by omega), List.range_succ, List.map_append]; rfl
theorem Z31 (p : Int) (l m : List Int) : Ev (fun k => spec_SpacePlace.f k p l m) (placeP p l m) := by
  unfold spec_SpacePlace.f
  refine Ev.bind (Z32 p l m) ?_
  cases hc : crossB p l m with
  | false =>
    rw [placeP, if_neg (by rw [hc]; simp)]
    exact Ev.no (by simp) (Ev.now _)
  | true =>
    obtain ⟨c1, c2, c3, c4⟩ := Z63 hc
    have hc0 := hc
    rw [crossB, Bool.and_eq_true, Bool.and_eq_true] at hc
    obtain ⟨⟨hl, hm⟩, h3⟩ := hc
    have h3 := of_decide_eq_true h3
    have hnl := Z2 hl
    have hnm := Z2 hm
    have hp := (Z0 hnl).1
    have hbd := Z1 hp
    have hok := rowsS_ok hnl hnm
    have h8 := (Z0 hnm).2.1
    have hrank : rankP p 4 (rowsS p l m) ≤ 3 := by
      have h := rank_mono hp hok (four_ok hnl hnm) (fun r hr => by
        simp only [rowsS, List.mem_cons, List.not_mem_nil, or_false] at hr
        have key : ∀ q ∈ [l.take 4, l.drop 4, m.take 4, m.drop 4], q.length = 4 → Sp p 4 [l.take 4, l.drop 4, m.take 4, m.drop 4] (fn (q.map fun x => (-x) % p)) := fun q hq hql => by
          refine ((Sp.mem hq).scale (-1)).congr fun j hj => ?_
          rw [fn_neg q j (by omega)]
          exact dvd_one (-1) (Z8 (-(fn q j)) p) (by omega)
        rcases hr with rfl | rfl | rfl | rfl
        · exact Sp.mem (by simp)
        · exact Sp.mem (by simp)
        · exact key (m.take 4) (by simp) (by simp; omega)
        · exact key (m.drop 4) (by simp) (by simp; omega))
      omega
    have hne := rel_ne hp hok (by show _ < 4; omega)
    obtain ⟨N, e, hN, h4, _⟩ := Z20 hp (tr_ok hok)
    have hlen : (rowsS p l m).length = 4 := rfl
    rw [hlen] at e hN h4 hne
    refine Ev.yes rfl (sc_l hnl hnm ?_ 4 0 (by omega))
    have hs := l4Null_ev hp (w := 4) (by omega) (tr 4 (rowsS p l m)) (by simp [tr]) (tr_ok hok)
    refine Ev.bind hs ?_
    match N, e, hN, h4 with
    | [], e, _, _ => exact absurd e hne
    | z :: N, e, hN, h4 =>
      rw [e]
      refine Ev.yes (by simp) ?_
      have h := sp_l hp hnl (t := z.2) (hN.ok z (by simp)) 4 0 (by omega)
      have hr := rel_place (t := z.2) hl hm (-1) (.inr rfl) (fun h => by
        have := h z.1 (hN.lt z (by simp))
        rw [hN.one z (by simp)] at this
        exact Z10 (by omega) this) (fun j hj => by
        have hd := h4 z (by simp) [fn l j, fn l (4 + j), (-(fn m j)) % p, (-(fn m (4 + j))) % p] (by rw [tr_rowsS h8]; exact List.mem_map.2 ⟨j, by simpa using hj, rfl⟩)
        have e2 : dt 4 (fn [fn l j, fn l (4 + j), (-(fn m j)) % p, (-(fn m (4 + j))) % p]) (fn z.2) = fn l j * fn z.2 0 + (fn l (4 + j) * fn z.2 1 + ((-(fn m j)) % p * fn z.2 2 + ((-(fn m (4 + j))) % p * fn z.2 3 + 0))) := rfl
        rw [e2] at hd
        have d1 := dvd_one (fn z.2 2) (Z8 (-(fn m j)) p) rfl
        have d2 := dvd_one (fn z.2 3) (Z8 (-(fn m (4 + j))) p) rfl
        have d3 := dvd_lin 1 1 d1 d2 rfl
        exact dvd_lin 1 1 hd d3 (by grind))
      have e9 := one_place hc0 hr.2.1 c2 hr.2.2.1 hr.2.2.2 c3 c4
      rw [c1, ← e9]
      simpa [rd_L1] using h
theorem Z29 {f : Nat → Int} {B : Int} : ∀ (d a : Nat), (∀ i, 0 ≤ f i ∧ f i ≤ B) → 0 ≤ sumR f d a ∧ sumR f d a ≤ d * B
  | 0, _, _ => by simp [sumR]
  | d + 1, a, h => by
    have h1 := Z29 d (a + 1) h
    have h2 := h a
    have h3 : ((d + 1 : Nat) : Int) * B = d * B + B := by push_cast; rw [Int.add_mul]; omega
    rw [sumR]
    omega
theorem Z34 (p : Int) (i j k : Nat) : 0 ≤ starS p i j k ∧ starS p i j k ≤ 1 := by
  unfold starS
  split
  · split <;> omega
  · omega
theorem tab_lt {p : Int} {i : Nat} (h : i < 27) : (i : Int) < ((tabS p 27).length : Int) := by rw [tabS_len]; omega
theorem Z87 {p : Int} {i : Nat} (h : i < 27) : (i : Int) < ((linesT p 27).length : Int) := by rw [Z45]; omega
theorem row_lt {p : Int} {i j : Nat} (h : j < 27) : (j : Int) < ((rowC p i).length : Int) := by rw [rowC_len]; omega
theorem star_l2 {p : Int} (hp : p = 7 ∨ p = 13 ∨ p = 19 ∨ p = 31) {i j : Nat} (hi : i < 27) (hj : j < 27) {R : Int × Bool} : ∀ (d k : Nat) (s : Int), k + d = 27 → 0 ≤ s → s + d ≤ 1000000 →
    Ev (fun n => spec_CubeStars.l1 n p (linesT p 27) (tabS p 27) (s + sumR (starS p i j) d k) (i : Int) ((j + 1 : Nat) : Int)) R →
    Ev (fun n => spec_CubeStars.l2 n p (linesT p 27) (tabS p 27) s (i : Int) (j : Int) (k : Int)) R
  | 0, k, s, e, h0, h1, next => by
    obtain rfl : k = 27 := by omega
    refine Ev.step (fun n => by rw [spec_CubeStars.l2, if_neg (show ¬ ((27 : Nat) : Int) < 27 by omega)]) ?_
    rw [show wrap64 ((j : Int) + 1) = ((j + 1 : Nat) : Int) by rw [wsm (by omega) (by omega)]; omega]
    rw [sumR, Int.add_zero] at next
    exact next
  | d + 1, k, s, e, h0, h1, next => by
    have hk : k < 27 := by omega
    have hw : wrap64 ((k : Int) + 1) = ((k + 1 : Nat) : Int) := by rw [wsm (by omega) (by omega)]; omega
    have hz0 := Z34 p i j k
    obtain ⟨z, hz⟩ : ∃ z, starS p i j k = z := ⟨_, rfl⟩
    rw [hz] at hz0
    have next2 : Ev (fun n => spec_CubeStars.l1 n p (linesT p 27) (tabS p 27) (s + z + sumR (starS p i j) d (k + 1)) (i : Int) ((j + 1 : Nat) : Int)) R := by
      rw [sumR, hz] at next
      rwa [Int.add_assoc]
    have ih : ∀ s', s' = s + z → Ev (fun n => spec_CubeStars.l2 n p (linesT p 27) (tabS p 27) s' (i : Int) (j : Int) ((k + 1 : Nat) : Int)) R := by
      rintro s' rfl
      exact star_l2 hp hi hj d (k + 1) _ (by omega) (by omega) (by omega) next2
    clear next next2
    have skip : z = 0 → Ev (fun n => spec_CubeStars.j3 n p (linesT p 27) (tabS p 27) s (i : Int) (j : Int) (k : Int) true) R := by
      intro hq
      refine Ev.step (fun n => by rw [spec_CubeStars.j3, if_pos rfl]) ?_
      rw [hw]
      exact ih s (by omega)
    have hws : wrap64 (s + 1) = s + 1 := wsm (by omega) (by omega)
    refine Ev.step (fun n => by rw [spec_CubeStars.l2, if_pos (show (k : Int) < 27 by omega)]) ?_
    rw [tabS_at hi, tabS_at hj, rowC_at hj, rowC_at hk, rowC_at hk, Z25 hp hi hj, Z25 hp hi hk, Z25 hp hj hk]
    refine Ev.yes (Int.natCast_nonneg _) (Ev.yes (tab_lt hi) (Ev.yes (Int.natCast_nonneg _) (Ev.yes (row_lt hj) ?_)))
    cases h1 : bitC i j with
    | false => exact Ev.no (by simp) (skip (by rw [← hz, starS, h1, if_neg (by simp)]))
    | true =>
      refine Ev.yes rfl (Ev.yes (Int.natCast_nonneg _) (Ev.yes (row_lt hk) ?_))
      cases h2 : bitC i k with
      | false => exact Ev.no (by simp) (skip (by rw [← hz, starS, h2, if_neg (by simp)]))
      | true =>
        refine Ev.yes rfl (Ev.yes (tab_lt hj) (Ev.yes (row_lt hk) ?_))
        cases h3 : bitC j k with
        | false => exact skip (by rw [← hz, starS, h3, if_neg (by simp)])
        | true =>
          have hc1 := Z17 hp hi hj h1
          have hc2 := Z17 hp hi hk h2
          have hq1 := (Z0 (Z35 hp hi hj h1)).2.1
          have hq2 := (Z0 (Z35 hp hi hk h2)).2.1
          refine Ev.step (fun n => by rw [spec_CubeStars.j3, if_neg (by simp)]) ?_
          refine Ev.yes (Int.natCast_nonneg _) (Ev.yes (Z87 hi) (Ev.yes (Int.natCast_nonneg _) (Ev.yes (Z87 hj) ?_)))
          rw [Z28 hi, Z28 hj, Z28 hk]
          refine Ev.bind (Z31 _ _ _) (Ev.yes (Int.natCast_nonneg _) (Ev.yes (Z87 hk) (Ev.bind (Z31 _ _ _) ?_)))
          refine Ev.bind (l7Same_ev (placeC p i j) (placeC p i k) (hq1.trans hq2.symm) (by rw [hq1]; decide)) ?_
          rw [hw, hws]
          by_cases he : placeC p i j = placeC p i k
          · rw [decide_eq_true he]
            exact Ev.yes rfl (ih _ (by rw [← hz, starS, if_pos ⟨h1, h2, h3⟩, if_pos he]))
          · rw [decide_eq_false he]
            exact Ev.no (by simp) (ih _ (by rw [← hz, starS, if_pos ⟨h1, h2, h3⟩, if_neg he, Int.add_zero]))
theorem star_l1 {p : Int} (hp : p = 7 ∨ p = 13 ∨ p = 19 ∨ p = 31) {i : Nat} (hi : i < 27) {R : Int × Bool} : ∀ (d j : Nat) (s : Int), j + d = 27 → 0 ≤ s → s + 27 * d ≤ 1000000 →
    Ev (fun n => spec_CubeStars.l0 n p (linesT p 27) (tabS p 27) (s + sumR (fun j => sumR (starS p i j) (26 - j) (j + 1)) d j) ((i + 1 : Nat) : Int)) R →
    Ev (fun n => spec_CubeStars.l1 n p (linesT p 27) (tabS p 27) s (i : Int) (j : Int)) R
  | 0, j, s, e, h0, h1, next => by
    obtain rfl : j = 27 := by omega
    refine Ev.step (fun n => by rw [spec_CubeStars.l1, if_neg (show ¬ ((27 : Nat) : Int) < 27 by omega)]) ?_
    rw [wsm (by omega) (by omega)]
    rw [sumR, Int.add_zero] at next
    simpa using next
  | d + 1, j, s, e, h0, h1, next => by
    have hb := Z29 (f := starS p i j) (B := 1) (26 - j) (j + 1) (Z34 p i j)
    refine Ev.step (fun n => by rw [spec_CubeStars.l1, if_pos (show (j : Int) < 27 by omega)]) ?_
    rw [show wrap64 ((j : Int) + 1) = ((j + 1 : Nat) : Int) by rw [wsm (by omega) (by omega)]; omega]
    refine star_l2 hp hi (by omega) (26 - j) (j + 1) s (by omega) h0 (by clear hb; omega) ?_
    rw [sumR, ← Int.add_assoc] at next
    generalize sumR (starS p i j) (26 - j) (j + 1) = z at hb next ⊢
    exact star_l1 hp hi d (j + 1) _ (by omega) (by omega) (by omega) next
theorem star_l0 {p : Int} (hp : p = 7 ∨ p = 13 ∨ p = 19 ∨ p = 31) : ∀ (d i : Nat) (s : Int), i + d = 27 → 0 ≤ s → s + 729 * d ≤ 1000000 →
    Ev (fun n => spec_CubeStars.l0 n p (linesT p 27) (tabS p 27) s (i : Int)) (s + sumR (fun i => sumR (fun j => sumR (starS p i j) (26 - j) (j + 1)) (26 - i) (i + 1)) d i, true)
  | 0, i, s, e, h0, h1 => by
    obtain rfl : i = 27 := by omega
    rw [sumR, Int.add_zero]
    exact Ev.step (f := fun _ => some (s, true)) (fun n => by rw [spec_CubeStars.l0, if_neg (show ¬ ((27 : Nat) : Int) < 27 by omega)]) (Ev.now _)
  | d + 1, i, s, e, h0, h1 => by
    have hb := Z29 (f := fun j => sumR (starS p i j) (26 - j) (j + 1)) (B := 27) (26 - i) (i + 1) (fun j => by have := Z29 (f := starS p i j) (B := 1) (26 - j) (j + 1) (Z34 p i j); omega)
    refine Ev.step (fun n => by rw [spec_CubeStars.l0, if_pos (show (i : Int) < 27 by omega)]) ?_
    rw [show wrap64 ((i : Int) + 1) = ((i + 1 : Nat) : Int) by rw [wsm (by omega) (by omega)]; omega]
    refine star_l1 hp (by omega) (26 - i) (i + 1) s (by omega) h0 (by omega) ?_
    rw [sumR, ← Int.add_assoc]
    generalize sumR (fun j => sumR (starS p i j) (26 - j) (j + 1)) (26 - i) (i + 1) = z at hb ⊢
    exact star_l0 hp d (i + 1) (s + z) (by omega) (by omega) (by omega)
theorem Z81 (p : Int) : Ev (fun n => spec_CubeStars.f n p) (starsP p) := by
  unfold spec_CubeStars.f starsP
  refine Ev.bind (sRoots_ev p) ?_
  rcases Z50 p with h | h
  · rw [h, if_neg (by simp)]; exact Ev.no (by simp) (Ev.now _)
  · have hl : (rootsT p).length = 3 := by rcases h with rfl | rfl | rfl | rfl <;> rfl
    have hne : rootsT p ≠ [] := by intro e; rw [e] at hl; simp at hl
    rw [if_pos hne]
    refine Ev.yes (by simp [hne]) (Ev.bind (Z72 h) (Ev.bind (l8Table_ev h) ?_))
    have := star_l0 h 27 0 0 rfl (by omega) (by omega)
    rw [starS_18 p (by simp; omega)] at this
    exact this
def bytesOk (b : List Int) : Prop := b.length ≤ 2000 ∧ ∀ x ∈ b, 0 ≤ x ∧ x ≤ 255
theorem wf_u8 {x : Int} (h : (Lit.int .u8 x).wf = true) : 0 ≤ x ∧ x ≤ 255 := by
  simp [Lit.wf, IntKind.min, IntKind.max, IntKind.signed, IntKind.bits] at h
  omega
theorem l6Open_eq (l : List Int) (h : ∀ x ∈ l, (Lit.int .u8 x).wf = true) : ∃ b, spec_l6Open.f l = some (b, 0) ∧ bytesOk b := by
  unfold spec_l6Open.f
  by_cases hl : (l.length : Int) > 2000
  · rw [if_pos hl, if_pos (by omega)]
    exact ⟨_, rfl, by simp; omega, fun x hx => wf_u8 (h x (List.mem_of_mem_take hx))⟩
  · rw [if_neg hl]
    exact ⟨_, rfl, by omega, fun x hx => wf_u8 (h x hx)⟩
theorem Z64 (x y : Int) (hx : 0 ≤ x) (hy : 0 ≤ y) (hx2 : x < 2 ^ 40) (hy2 : y < 2 ^ 40) : 0 ≤ Go.bits .xor .i64 x y := by
  obtain ⟨a, rfl⟩ := Int.eq_ofNat_of_zero_le hx
  obtain ⟨b, rfl⟩ := Int.eq_ofNat_of_zero_le hy
  have ha : a < 2 ^ 40 := by omega
  have hb : b < 2 ^ 40 := by omega
  have hc := Nat.xor_lt_two_pow ha hb
  have e : (BitVec.ofInt 64 (a : Int) ^^^ BitVec.ofInt 64 (b : Int)).toNat = a ^^^ b := by
    rw [BitVec.toNat_xor, BitVec.ofInt_natCast, BitVec.ofInt_natCast, BitVec.toNat_ofNat, BitVec.toNat_ofNat, Nat.mod_eq_of_lt (by omega), Nat.mod_eq_of_lt (by omega)]
  show 0 ≤ IntKind.wrap .i64 (((BitVec.ofInt 64 (a : Int) ^^^ BitVec.ofInt 64 (b : Int)).toNat : Nat) : Int)
  rw [e]
  generalize a ^^^ b = c at hc
  have hm : ((c : Int)) % (2 ^ 64 : Int) = c := by omega
  simp only [IntKind.wrap, IntKind.bits, IntKind.signed, hm]
  rw [if_neg (by simp; omega)]
  omega
theorem rd_byte {b : List Int} (h : bytesOk b) (i : Int) : 0 ≤ rd b i ∧ rd b i ≤ 255 := by
  unfold rd
  rw [List.getD_eq_getElem?_getD]
  cases hi : b[i.toNat]? with
  | none => simp
  | some x => exact h.2 x (List.mem_of_getElem? hi)
theorem pick_ev (b : List Int) (h : bytesOk b) (p n : Int) (hp : 0 ≤ p) (hp2 : p ≤ 1000000) : ∃ v, Ev (fun k => spec_l6Rd_pick.f k b p n) (v, p + 1) ∧ 0 ≤ v ∧ (1 ≤ n → v < n) := by
  have w1 : wrap64 (p + 1) = p + 1 := wsm (by omega) (by omega)
  have w2 : wrap64 (p + 1 - 1) = p := by rw [wsm (by omega) (by omega)]; omega
  unfold spec_l6Rd_pick.f
  by_cases hn : n < 1
  · refine ⟨0, Ev.yes hn ?_, by omega, by omega⟩
    refine Ev.step (f := fun _ => some (0, p + 1)) (fun k => ?_) (Ev.now _)
    rw [spec_l6Rd_pick.j0, if_pos rfl, w1]
  · by_cases hb : b.length = 0
    · refine ⟨0, Ev.no hn ?_, by omega, by omega⟩
      refine Ev.step (f := fun _ => some (0, p + 1)) (fun k => ?_) (Ev.now _)
      rw [spec_l6Rd_pick.j0, if_pos (by simp [hb]), w1]
    · have hbf : ¬ ((b.length : Int) == 0) = true := by simp; intro e; simp [e] at hb
      have hb0 : ¬ (b.length : Int) = 0 := by omega
      by_cases hlt : p < (b.length : Int)
      · have hr := rd_byte h p
        refine ⟨Int.tmod (rd b p) n, Ev.no hn ?_, Int.tmod_nonneg _ hr.1, fun _ => Int.tmod_lt_of_pos _ (by omega)⟩
        refine Ev.step (f := fun _ => some (Int.tmod (rd b p) n, p + 1)) (fun k => ?_) (Ev.now _)
        rw [spec_l6Rd_pick.j0, if_neg hbf, w1, w2, if_pos hlt, if_pos hp, if_neg (by omega), wsm (by omega) (by omega)]
      · have hlp : 0 < (b.length : Int) := by omega
        have hi1 := Int.tmod_nonneg (b.length : Int) hp
        have hi2 := Int.tmod_lt_of_pos p hlp
        have w3 : wrap64 (wrap64 (p * 7) + 3) = p * 7 + 3 := by rw [wsm (i := p * 7) (by omega) (by omega), wsm (by omega) (by omega)]
        have hj1 := Int.tmod_nonneg (b.length : Int) (a := p * 7 + 3) (by omega)
        have hj2 := Int.tmod_lt_of_pos (p * 7 + 3) hlp
        have r1 := rd_byte h (Int.tmod p (b.length : Int))
        have r2 := rd_byte h (Int.tmod (p * 7 + 3) (b.length : Int))
        have hq0 : 0 ≤ Int.tdiv p (b.length : Int) := Int.tdiv_nonneg hp (by omega)
        have hq1 : Int.tdiv p (b.length : Int) ≤ p := by rw [Int.tdiv_eq_ediv_of_nonneg hp]; exact Int.ediv_le_self _ hp
        have e := @spec_l6Rd_pick.j0.eq_2
        generalize hx : wrap64 (wrap64 (wrap64 (wrap64 (wrap64 (rd b (Int.tmod p (b.length : Int))) * 131) + wrap64 (wrap64 (rd b (Int.tmod (p * 7 + 3) (b.length : Int))) * 1117)) + wrap64 (p * 29)) + wrap64 (wrap64 (Int.tdiv p (b.length : Int)) * 53)) = X
        have hX : 0 ≤ X ∧ X < 2 ^ 40 := by
          rw [← hx]
          generalize rd b (Int.tmod p (b.length : Int)) = y1 at r1
          generalize rd b (Int.tmod (p * 7 + 3) (b.length : Int)) = y2 at r2
          generalize Int.tdiv p (b.length : Int) = y3 at hq0 hq1
          rw [wsm (i := y1) (by omega) (by omega), wsm (i := y2) (by omega) (by omega), wsm (i := y3) (by omega) (by omega), wsm (i := y1 * 131) (by omega) (by omega), wsm (i := y2 * 1117) (by omega) (by omega), wsm (i := y3 * 53) (by omega) (by omega), wsm (i := p * 29) (by omega) (by omega), wsm (i := y1 * 131 + y2 * 1117) (by omega) (by omega), wsm (i := y1 * 131 + y2 * 1117 + p * 29) (by omega) (by omega), wsm (by omega) (by omega)]
          omega
        have hd : 0 ≤ Int.tdiv X 64 ∧ Int.tdiv X 64 ≤ X := by rw [Int.tdiv_eq_ediv_of_nonneg hX.1]; omega
        have hxor := Z64 X (wrap64 (Int.tdiv X 64)) hX.1 (by rw [wsm (by omega) (by omega)]; omega) hX.2 (by rw [wsm (by omega) (by omega)]; omega)
        refine ⟨Int.tmod (Go.bits .xor .i64 X (wrap64 (Int.tdiv X 64))) n, Ev.no hn ?_, Int.tmod_nonneg _ hxor, fun _ => Int.tmod_lt_of_pos _ (by omega)⟩
        refine Ev.step (f := fun _ => some (Int.tmod (Go.bits .xor .i64 X (wrap64 (Int.tdiv X 64))) n, p + 1)) (fun k => ?_) (Ev.now _)
        rw [spec_l6Rd_pick.j0, if_neg hbf, w1, w2, if_neg hlt, if_neg hb0, if_pos hi1, if_pos hi2, w3, if_pos hj1, if_pos hj2, if_neg (by omega), hx]
theorem l91Index_ev (b : List Int) (hb : bytesOk b) (s : Int) (h0 : 0 ≤ s) (h1 : s ≤ 900000) : ∃ v s', Ev (fun k => spec_l91Index.f k b s) (v, s') ∧ -1 ≤ v ∧ v ≤ 27 ∧ s ≤ s' ∧ s' ≤ s + 2 := by
  obtain ⟨u, hu, u0, u1⟩ := pick_ev b hb s 20 (by omega) (by omega)
  unfold spec_l91Index.f
  by_cases hz : u = 0
  · obtain ⟨x, hx, x0, x1⟩ := pick_ev b hb (s + 1) 2 (by omega) (by omega)
    have hx1 := x1 (by omega)
    refine ⟨rd [-1, 27] x, s + 1 + 1, Ev.bind hu (Ev.yes hz (Ev.bind (a := [-1, 27]) (Ev.now _) (Ev.bind hx (Ev.yes (by show 0 ≤ x; omega) (Ev.yes (by show x < 2; omega) (Ev.now _)))))), ?_, ?_, by omega, by omega⟩
    · rcases (show x = 0 ∨ x = 1 by omega) with rfl | rfl <;> decide
    · rcases (show x = 0 ∨ x = 1 by omega) with rfl | rfl <;> decide
  · obtain ⟨x, hx, x0, x1⟩ := pick_ev b hb (s + 1) 27 (by omega) (by omega)
    have hx1 := x1 (by omega)
    exact ⟨x, s + 1 + 1, Ev.bind hu (Ev.no hz (Ev.bind hx (Ev.now _))), by omega, by omega, by omega, by omega⟩
theorem l92Cube_ev (l : List Int) (h : ∀ x ∈ l, (Lit.int .u8 x).wf = true) : ∃ p n, Ev (fun k => spec_l92Cube.f k l) (p, n) ∧ -1 ≤ n ∧ n ≤ 27 := by
  obtain ⟨b, hb, hok⟩ := l6Open_eq l h
  obtain ⟨u, hu, u0, u1⟩ := pick_ev b hok 0 8 (by omega) (by omega)
  have hu1 := u1 (by omega)
  obtain ⟨n, s', hn, n0, n1, _, _⟩ := l91Index_ev b hok (0 + 1) (by omega) (by omega)
  refine ⟨rd [7, 13, 19, 31, 7, 13, 11, 9] u, n, ?_, n0, n1⟩
  unfold spec_l92Cube.f
  exact Ev.bind (Ev.k hb) (Ev.bind (a := [7, 13, 19, 31, 7, 13, 11, 9]) (Ev.now _) (Ev.bind hu (Ev.yes (by show 0 ≤ u; omega) (Ev.yes (by show u < 8; omega) (Ev.bind hn (Ev.now _))))))
theorem Z33 (l : List Int) (h : ∀ x ∈ l, (Lit.int .u8 x).wf = true) : Ev (fun k => laws_FnCubeStars.f k l) true := by
  unfold laws_FnCubeStars.f
  refine Ev.ite (fun _ => Ev.now _) (fun hl => ?_)
  obtain ⟨p, n, hd, _, _⟩ := l92Cube_ev l h
  refine Ev.bind (a := p) (by unfold spec_DrawCubeStars.f; exact Ev.bind hd (Ev.now _)) (Ev.bind (Z89 p) (Ev.bind (Z81 p) (Ev.no (by simp) (Ev.yes rfl ?_))))
  unfold starsP
  by_cases hr : rootsT p ≠ []
  · rw [if_pos hr]
    exact Ev.yes rfl (Ev.now _)
  · rw [if_neg hr]
    exact Ev.no (by simp) (Ev.yes (by rfl) (Ev.now _))
end Go.Proofs.Ytmenehnfgenlpaa.PA
namespace Go.Proofs.Ytmenehnfgenlpaa.Pure
open Go.RowKit Go.Proofs.Ytmenehnfgenlpaa.PA Go.Proofs.YtmenehnfgenlpaaW.PrintWords Go.Proofs.YtmenehnfgenlpaaW.PrintLast
theorem FnCubeStars : laws_FnCubeStars.Pure := by
  intro l
  intros
  first | exact (Z33 l).rounds | exact (Z33 l (by assumption)).rounds
end Go.Proofs.Ytmenehnfgenlpaa.Pure
