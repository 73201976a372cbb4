/- For every code: the indexes of the lines that meet the drawn line of cubes are the reference's; there are ten of them, each later one is greater, and each one's line crosses the drawn one, or neither names any. No conditions. -/
import Derived.Test.YtmenehnfgenlpaaWMore
import Derived.Test.YtmenehnfgenlpaaPAx12
import Derived.Test.YtmenehnfgenlpaaPAx1
import Derived.Test.YtmenehnfgenlpaaPAx7
import Derived.Test.YtmenehnfgenlpaaPAx10
import Derived.Test.YtmenehnfgenlpaaPAx2
import Derived.Test.YtmenehnfgenlpaaPAx0
import Derived.Test.YtmenehnfgenlpaaPAx8
import Derived.Test.YtmenehnfgenlpaaPAx9
import Derived.Test.YtmenehnfgenlpaaPAx11
import Derived.Test.YtmenehnfgenlpaaPAx5
import Derived.Test.YtmenehnfgenlpaaPAx3
import Derived.Test.YtmenehnfgenlpaaPAx4
import Derived.Test.YtmenehnfgenlpaaPAx6
import Derived.Test.YtmenehnfgenlpaaPAx13
import Derived.Test.YtmenehnfgenlpaaPAx14
namespace Go.Proofs.Ytmenehnfgenlpaa.PA
open Go.RowKit Go.Proofs.YtmenehnfgenlpaaW.PrintWords Go.Proofs.YtmenehnfgenlpaaW.PrintLast Go.Proofs.YtmenehnfgenlpaaW.PrintMore
set_option linter.unusedVariables false
set_option linter.unusedSimpArgs false

theorem wsm {i : Int} (h0 : -1000000000000000000 ≤ i) (h : i ≤ 1000000000000000000) : wrap64 i = i := by unfold wrap64; omega
theorem Ev.none_ {α : Type} {g : Nat → Option α} {r r' : α} (h : Ev g r) (h' : Ev g r') : r = r' := by
  obtain ⟨a, ha⟩ := h
  obtain ⟨b, hb⟩ := h'
  have h1 := ha (max a b) (Nat.le_max_left _ _)
  have h2 := hb (max a b) (Nat.le_max_right _ _)
  exact Option.some.inj (h1.symm.trans h2)
theorem Ev.k {α : Type} {x : Option α} {r : α} (h : x = some r) : Ev (fun _ => x) r := ⟨0, fun _ _ => h⟩
theorem Ev.ite {α : Type} {c : Prop} [Decidable c] {g f : Nat → Option α} {r : α} (h1 : c → Ev g r) (h2 : ¬ c → Ev f r) : Ev (fun k => if c then g k else f k) r := by
  by_cases h : c
  · exact (h1 h).congr (fun k => if_pos h)
  · exact (h2 h).congr (fun k => if_neg h)
theorem Ev.yes {α : Type} {c : Prop} [Decidable c] {g f : Nat → Option α} {r : α} (h : c) (h1 : Ev g r) : Ev (fun k => if c then g k else f k) r := h1.congr (fun k => if_pos h)
theorem Ev.no {α : Type} {c : Prop} [Decidable c] {g f : Nat → Option α} {r : α} (h : ¬ c) (h1 : Ev f r) : Ev (fun k => if c then g k else f k) r := h1.congr (fun k => if_neg h)
theorem rd_at (l : List Int) (j : Nat) (h : j < l.length) : rd l (j : Int) = l[j] := by simp [rd, List.getD_eq_getElem?_getD, h]
theorem rd_drop (l : List Int) (j : Nat) (h : j < l.length) : l.drop j = rd l (j : Int) :: l.drop (j + 1) := by rw [rd_at l j h, List.drop_eq_getElem_cons h]

end Go.Proofs.Ytmenehnfgenlpaa.PA
namespace Go.Proofs.Ytmenehnfgenlpaa.PA
open Go.RowKit Go.Proofs.YtmenehnfgenlpaaW.PrintWords Go.Proofs.YtmenehnfgenlpaaW.PrintLast Go.Proofs.YtmenehnfgenlpaaW.PrintMore
set_option linter.unusedVariables false
set_option linter.unusedSimpArgs false

/-- the numbers whose cube is -1, if there are three -/
def rootsT (p : Int) : List Int := if p = 7 then [3, 5, 6] else if p = 13 then [4, 10, 12] else if p = 19 then [8, 12, 18] else if p = 31 then [6, 26, 30] else []
theorem rootsT_not {p : Int} (h : primeB p = false) : rootsT p = [] := by
  have : ¬ (p = 7 ∨ p = 11 ∨ p = 13 ∨ p = 17 ∨ p = 19 ∨ p = 23 ∨ p = 29 ∨ p = 31) := of_decide_eq_false h
  unfold rootsT
  rw [if_neg (by omega), if_neg (by omega), if_neg (by omega), if_neg (by omega)]
theorem rootsT_cases (p : Int) : rootsT p = [] ∨ (p = 7 ∨ p = 13 ∨ p = 19 ∨ p = 31) := by
  unfold rootsT
  by_cases h1 : p = 7
  · exact .inr (.inl h1)
  by_cases h2 : p = 13
  · exact .inr (.inr (.inl h2))
  by_cases h3 : p = 19
  · exact .inr (.inr (.inr (.inl h3)))
  by_cases h4 : p = 31
  · exact .inr (.inr (.inr (.inr h4)))
  · rw [if_neg h1, if_neg h2, if_neg h3, if_neg h4]; exact .inl rfl

end Go.Proofs.Ytmenehnfgenlpaa.PA
namespace Go.Proofs.Ytmenehnfgenlpaa.PA
open Go.RowKit Go.Proofs.YtmenehnfgenlpaaW.PrintWords Go.Proofs.YtmenehnfgenlpaaW.PrintLast Go.Proofs.YtmenehnfgenlpaaW.PrintMore
set_option linter.unusedVariables false
set_option linter.unusedSimpArgs false

theorem PrimeIn_eq (p : Int) : spec_PrimeIn.f p = some (primeB p) := by
  unfold spec_PrimeIn.f primeB
  repeat' split
  all_goals first | (subst_vars; rfl) | (congr 1; symm; rw [decide_eq_true_iff]; omega) | (congr 1; symm; rw [decide_eq_false_iff_not]; omega)
theorem primeB_cases {p : Int} (h : primeB p = true) : p = 7 ∨ p = 11 ∨ p = 13 ∨ p = 17 ∨ p = 19 ∨ p = 23 ∨ p = 29 ∨ p = 31 := of_decide_eq_true h
theorem isPrime_ev (p : Int) : Ev (fun k => impl_isPrime.f k p) (primeB p) := Ev.of (impl_isPrime.mono p) (isPrime_f p)
/-- n numbers modulo a prime -/
def numsB (p : Int) (l : List Int) (n : Nat) : Bool := primeB p && decide (l.length = n) && l.all fun x => decide (0 ≤ x) && decide (x < p)
theorem areNumbers_eq (p : Int) (l : List Int) (n : Nat) : impl_areNumbers.f p l (n : Int) = some (numsB p l n) := by
  unfold impl_areNumbers.f numsB
  congr 3
  rw [Bool.eq_iff_iff, decide_eq_true_iff, decide_eq_true_iff]
  omega
theorem numsB_prime {p : Int} {l : List Int} {n : Nat} (h : numsB p l n = true) : primeB p = true ∧ l.length = n ∧ ∀ x ∈ l, 0 ≤ x ∧ x < p := by
  unfold numsB at h
  rw [Bool.and_eq_true, Bool.and_eq_true] at h
  refine ⟨h.1.1, of_decide_eq_true h.1.2, fun x hx => ?_⟩
  have := List.all_eq_true.1 h.2 x hx
  rw [Bool.and_eq_true] at this
  exact ⟨of_decide_eq_true this.1, of_decide_eq_true this.2⟩
theorem numsB_mk {p : Int} {l : List Int} {n : Nat} (h1 : primeB p = true) (h2 : l.length = n) (h3 : ∀ x ∈ l, 0 ≤ x ∧ x < p) : numsB p l n = true := by
  unfold numsB
  rw [h1, decide_eq_true h2, Bool.true_and, Bool.true_and, List.all_eq_true]
  intro x hx
  rw [decide_eq_true (h3 x hx).1, decide_eq_true (h3 x hx).2]; rfl
theorem prime_bd {p : Int} (h : primeB p = true) : 7 ≤ p ∧ p ≤ 31 := by have := primeB_cases h; omega
theorem rd_range {p : Int} {l : List Int} {n : Nat} (h : numsB p l n = true) (i : Int) (h0 : 0 ≤ i) (h1 : i < n) : 0 ≤ rd l i ∧ rd l i < p := by
  obtain ⟨_, hl, hr⟩ := numsB_prime h
  obtain ⟨j, rfl⟩ := Int.eq_ofNat_of_zero_le h0
  rw [rd_at l j (by omega)]
  exact hr _ (List.getElem_mem _)

end Go.Proofs.Ytmenehnfgenlpaa.PA
namespace Go.Proofs.Ytmenehnfgenlpaa.PA
open Go.RowKit Go.Proofs.YtmenehnfgenlpaaW.PrintWords Go.Proofs.YtmenehnfgenlpaaW.PrintLast Go.Proofs.YtmenehnfgenlpaaW.PrintMore
set_option linter.unusedVariables false
set_option linter.unusedSimpArgs false

/-- the inverse modulo a prime; 0 of 0 -/
def invP (p x : Int) : Int := (spec_l4Turned.f 40 p x).getD 0
theorem invP_table : ∀ p ∈ ([7, 11, 13, 17, 19, 23, 29, 31] : List Int), ∀ x ∈ List.range 31, (x : Int) < p → spec_l4Turned.f 40 p (x : Int) = some (invP p (x : Int)) ∧ 0 ≤ invP p (x : Int) ∧ invP p (x : Int) < p ∧ ((x : Int) ≠ 0 → ((x : Int) * invP p (x : Int)) % p = 1) ∧ ((x : Int) = 0 → invP p (x : Int) = 0) := by decide +kernel
theorem invP_spec {p : Int} (hp : primeB p = true) {x : Int} (h0 : 0 ≤ x) (h1 : x < p) : spec_l4Turned.f 40 p x = some (invP p x) ∧ 0 ≤ invP p x ∧ invP p x < p ∧ (x ≠ 0 → (x * invP p x) % p = 1) ∧ (x = 0 → invP p x = 0) := by
  obtain ⟨y, rfl⟩ := Int.eq_ofNat_of_zero_le h0
  have hb := prime_bd hp
  refine invP_table p ?_ y (List.mem_range.2 (by omega)) h1
  have := primeB_cases hp
  simpa using this
theorem turned_ev {p : Int} (hp : primeB p = true) {x : Int} (h0 : 0 ≤ x) (h1 : x < p) : Ev (fun k => spec_l4Turned.f k p x) (invP p x) := Ev.of (spec_l4Turned.mono p x) (invP_spec hp h0 h1).1
theorem invP_one {p : Int} (hp : primeB p = true) : invP p 1 = 1 := by
  have hb := prime_bd hp
  obtain ⟨_, h2, h3, h4, _⟩ := invP_spec hp (x := 1) (by omega) (by omega)
  have := h4 (by omega)
  rw [Int.one_mul, Int.emod_eq_of_lt h2 h3] at this
  exact this
theorem invP_ne {p : Int} (hp : primeB p = true) {x : Int} (h0 : 0 ≤ x) (h1 : x < p) (hx : x ≠ 0) : invP p x ≠ 0 := by
  intro e
  have := (invP_spec hp h0 h1).2.2.2.1 hx
  rw [e] at this
  simp at this

end Go.Proofs.Ytmenehnfgenlpaa.PA
namespace Go.Proofs.Ytmenehnfgenlpaa.PA
open Go.RowKit Go.Proofs.YtmenehnfgenlpaaW.PrintWords Go.Proofs.YtmenehnfgenlpaaW.PrintLast Go.Proofs.YtmenehnfgenlpaaW.PrintMore
set_option linter.unusedVariables false
set_option linter.unusedSimpArgs false

/-- a row less t times another one -/
def lessP (p t : Int) (h r : List Int) : List Int := List.zipWith (fun x y => (x - t * y) % p) r h
def scaleP (p b : Int) (r : List Int) : List Int := r.map fun x => x * b % p
/-- reduced rows: L the rows that are left, O those that are done -/
def redP (p : Int) : Nat → Nat → List (List Int) → List (List Int) → List (List Int)
  | 0, _, _, O => O
  | d + 1, c, L, O =>
    match L.findIdx? (fun row => rd row (c : Int) != 0) with
    | none => redP p d (c + 1) L O
    | some i => redP p d (c + 1) ((L.eraseIdx i).map fun r => lessP p (rd r (c : Int)) (scaleP p (invP p (rd (L.getD i []) (c : Int))) (L.getD i [])) r) ((O.map fun r => lessP p (rd r (c : Int)) (scaleP p (invP p (rd (L.getD i []) (c : Int))) (L.getD i [])) r) ++ [scaleP p (invP p (rd (L.getD i []) (c : Int))) (L.getD i [])])
/-- their columns -/
def headsP (p : Int) : Nat → Nat → List (List Int) → List Int → List Int
  | 0, _, _, H => H
  | d + 1, c, L, H =>
    match L.findIdx? (fun row => rd row (c : Int) != 0) with
    | none => headsP p d (c + 1) L H
    | some i => headsP p d (c + 1) ((L.eraseIdx i).map fun r => lessP p (rd r (c : Int)) (scaleP p (invP p (rd (L.getD i []) (c : Int))) (L.getD i [])) r) (H ++ [(c : Int)])
/-- rows of one length with numbers from 0 to p - 1 -/
def okR (p : Int) (w : Nat) (L : List (List Int)) : Prop := ∀ r ∈ L, r.length = w ∧ ∀ x ∈ r, 0 ≤ x ∧ x < p
theorem okR_nil (p : Int) (w : Nat) : okR p w [] := fun _ h => absurd h (by simp)
theorem okR_cons {p : Int} {w : Nat} {r : List Int} {L : List (List Int)} (h1 : r.length = w ∧ ∀ x ∈ r, 0 ≤ x ∧ x < p) (h2 : okR p w L) : okR p w (r :: L) := fun x hx => by
  rcases List.mem_cons.1 hx with rfl | hx
  · exact h1
  · exact h2 x hx
theorem okR_app {p : Int} {w : Nat} {L M : List (List Int)} (h1 : okR p w L) (h2 : okR p w M) : okR p w (L ++ M) := fun x hx => by
  rcases List.mem_append.1 hx with hx | hx
  · exact h1 x hx
  · exact h2 x hx
theorem less_ok {p t : Int} {w : Nat} {h r : List Int} (hp : 0 < p) (hh : h.length = w) (hr : r.length = w) : (lessP p t h r).length = w ∧ ∀ x ∈ lessP p t h r, 0 ≤ x ∧ x < p := by
  refine ⟨by simp [lessP, hh, hr], fun x hx => ?_⟩
  rw [lessP, List.mem_iff_getElem] at hx
  obtain ⟨i, hi, rfl⟩ := hx
  rw [List.getElem_zipWith]
  exact ⟨Int.emod_nonneg _ (by omega), Int.emod_lt_of_pos _ hp⟩
theorem scale_ok {p b : Int} {w : Nat} {r : List Int} (hp : 0 < p) (hr : r.length = w) : (scaleP p b r).length = w ∧ ∀ x ∈ scaleP p b r, 0 ≤ x ∧ x < p := by
  refine ⟨by simp [scaleP, hr], fun x hx => ?_⟩
  obtain ⟨y, _, rfl⟩ := List.mem_map.1 hx
  exact ⟨Int.emod_nonneg _ (by omega), Int.emod_lt_of_pos _ hp⟩
theorem mem_getD {L : List (List Int)} {i : Nat} (h : i < L.length) : L.getD i [] ∈ L := by
  rw [List.getD_eq_getElem?_getD, List.getElem?_eq_getElem h]; exact List.getElem_mem h
theorem okR_less {p : Int} {w : Nat} {L : List (List Int)} {h : List Int} (t : List Int → Int) (hp : 0 < p) (hh : h.length = w) (hL : okR p w L) : okR p w (L.map fun r => lessP p (t r) h r) := fun x hx => by
  obtain ⟨r, hr, rfl⟩ := List.mem_map.1 hx
  exact less_ok hp hh (hL r hr).1
theorem okR_erase {p : Int} {w : Nat} {L : List (List Int)} (i : Nat) (hL : okR p w L) : okR p w (L.eraseIdx i) := fun r hr => hL r (List.mem_of_mem_eraseIdx hr)
theorem find_lt {L : List (List Int)} {P : List Int → Bool} {i : Nat} (h : L.findIdx? P = some i) : i < L.length ∧ P (L.getD i []) = true := by
  rw [List.findIdx?_eq_some_iff_getElem] at h
  obtain ⟨hi, hp, _⟩ := h
  exact ⟨hi, by rw [List.getD_eq_getElem?_getD, List.getElem?_eq_getElem hi]; exact hp⟩
theorem ok_rd {p : Int} {w : Nat} {r : List Int} (h : r.length = w ∧ ∀ x ∈ r, 0 ≤ x ∧ x < p) (j : Nat) (hj : j < w) : 0 ≤ rd r (j : Int) ∧ rd r (j : Int) < p := by
  rw [rd_at r j (by omega)]; exact h.2 _ (List.getElem_mem _)
theorem rd_less {p t : Int} {h r : List Int} (j : Nat) (h1 : j < r.length) (h2 : j < h.length) : rd (lessP p t h r) (j : Int) = (rd r (j : Int) - t * rd h (j : Int)) % p := by
  rw [rd_at _ j (by simp [lessP]; omega), rd_at _ j h1, rd_at _ j h2]; simp [lessP]
theorem rd_scale {p b : Int} {r : List Int} (j : Nat) (h1 : j < r.length) : rd (scaleP p b r) (j : Int) = rd r (j : Int) * b % p := by
  rw [rd_at _ j (by simp [scaleP]; omega), rd_at _ j h1]; simp [scaleP]
theorem ext_rd {a b : List Int} {w : Nat} (ha : a.length = w) (hb : b.length = w) (h : ∀ j : Nat, j < w → rd a (j : Int) = rd b (j : Int)) : a = b := by
  refine List.ext_getElem (by omega) fun j h1 h2 => ?_
  have := h j (by omega)
  rwa [rd_at a j h1, rd_at b j h2] at this

end Go.Proofs.Ytmenehnfgenlpaa.PA
namespace Go.Proofs.Ytmenehnfgenlpaa.PA
open Go.RowKit Go.Proofs.YtmenehnfgenlpaaW.PrintWords Go.Proofs.YtmenehnfgenlpaaW.PrintLast Go.Proofs.YtmenehnfgenlpaaW.PrintMore
set_option linter.unusedVariables false
set_option linter.unusedSimpArgs false

theorem redP_len (p : Int) : ∀ (d c : Nat) (L O : List (List Int)), (redP p d c L O).length ≤ L.length + O.length
  | 0, _, L, O => by rw [redP]; omega
  | d + 1, c, L, O => by
    rw [redP]
    split
    · exact redP_len p d (c + 1) L O
    · next i hf =>
      have hi := (find_lt hf).1
      refine Nat.le_trans (redP_len p d (c + 1) _ _) ?_
      simp [List.length_eraseIdx, hi]
      omega
theorem redP_ok {p : Int} (hp : 0 < p) {w : Nat} : ∀ (d c : Nat) (L O : List (List Int)), okR p w L → okR p w O → okR p w (redP p d c L O)
  | 0, _, L, O, _, hO => by rw [redP]; exact hO
  | d + 1, c, L, O, hL, hO => by
    rw [redP]
    split
    · exact redP_ok hp d (c + 1) L O hL hO
    · next i hf =>
      have hi := (find_lt hf).1
      have hs := scale_ok (p := p) (b := invP p (rd (L.getD i []) (c : Int))) hp (hL _ (mem_getD hi)).1
      exact redP_ok hp d (c + 1) _ _ (okR_less _ hp hs.1 (okR_erase i hL)) (okR_app (okR_less _ hp hs.1 hO) (okR_cons hs (okR_nil p w)))
/-- the reduced rows, one after the other -/
def spanP (p : Int) (w : Nat) (L : List (List Int)) : List Int := (redP p w 0 L []).flatten
def rankP (p : Int) (w : Nat) (L : List (List Int)) : Nat := (redP p w 0 L []).length
theorem flat_len {w : Nat} : ∀ (M : List (List Int)), (∀ r ∈ M, r.length = w) → M.flatten.length = M.length * w
  | [], _ => by simp
  | r :: M, h => by
    rw [List.flatten_cons, List.length_append, h r (by simp), flat_len M (fun x hx => h x (by simp [hx])), List.length_cons, Nat.add_mul, Nat.one_mul, Nat.add_comm]
theorem spanP_len {p : Int} (hp : 0 < p) {w : Nat} {L : List (List Int)} (hL : okR p w L) : (spanP p w L).length = rankP p w L * w := flat_len _ (fun r hr => (redP_ok hp w 0 L [] hL (okR_nil p w) r hr).1)
/-- a list of eight numbers is a line of space -/
def lineB (p : Int) (l : List Int) : Bool := numsB p l 8 && decide (spanP p 4 [l.take 4, l.drop 4] = l)
theorem halves_ok {p : Int} {l : List Int} (h : numsB p l 8 = true) : okR p 4 [l.take 4, l.drop 4] := by
  obtain ⟨_, hl, hx⟩ := numsB_prime h
  refine okR_cons ⟨by simp; omega, fun x hx' => hx x (List.mem_of_mem_take hx')⟩ (okR_cons ⟨by simp; omega, fun x hx' => hx x (List.mem_of_mem_drop hx')⟩ (okR_nil p 4))
theorem line_nums {p : Int} {l : List Int} (h : lineB p l = true) : numsB p l 8 = true := by
  rw [lineB, Bool.and_eq_true] at h; exact h.1
theorem line_rank {p : Int} {l : List Int} (h : lineB p l = true) : rankP p 4 [l.take 4, l.drop 4] = 2 := by
  have hn := line_nums h
  have hb := prime_bd (numsB_prime hn).1
  rw [lineB, Bool.and_eq_true] at h
  have h2 := of_decide_eq_true h.2
  have h3 := spanP_len (w := 4) (by omega) (halves_ok hn)
  rw [h2, (numsB_prime hn).2.1] at h3
  omega

end Go.Proofs.Ytmenehnfgenlpaa.PA
namespace Go.Proofs.Ytmenehnfgenlpaa.PA
open Go.RowKit Go.Proofs.YtmenehnfgenlpaaW.PrintWords Go.Proofs.YtmenehnfgenlpaaW.PrintLast Go.Proofs.YtmenehnfgenlpaaW.PrintMore
set_option linter.unusedVariables false
set_option linter.unusedSimpArgs false

/-- the rows of a line of cubes -/
def cubeRows (p : Int) (k : Nat) : List (List Int) :=
  if k / 9 = 0 then [[(rootsT p).getD (k / 3 % 3) 0, 1, 0, 0], [0, 0, (rootsT p).getD (k % 3) 0, 1]]
  else if k / 9 = 1 then [[(rootsT p).getD (k / 3 % 3) 0, 0, 1, 0], [0, (rootsT p).getD (k % 3) 0, 0, 1]]
  else [[(rootsT p).getD (k / 3 % 3) 0, 0, 0, 1], [0, (rootsT p).getD (k % 3) 0, 1, 0]]
/-- a line of cubes -/
def lineC (p k : Int) : List Int := spanP p 4 (cubeRows p k.toNat)
theorem lineC_table : ∀ p ∈ ([7, 13, 19, 31] : List Int), ∀ k ∈ List.range 27, (lineC p (k : Int)).length = 8 := by decide +kernel
theorem lineC_len {p k : Int} (hp : p = 7 ∨ p = 13 ∨ p = 19 ∨ p = 31) (h0 : 0 ≤ k) (h1 : k < 27) : (lineC p k).length = 8 := by
  have h := lineC_table p (by simp; omega) k.toNat (by simp; omega)
  rwa [show ((k.toNat : Nat) : Int) = k by omega] at h
/-- what CubeLine returns -/
def clP (p k : Int) : List Int × Bool := if rootsT p ≠ [] ∧ 0 ≤ k ∧ k < 27 then (lineC p k, true) else ([], false)
theorem clP_len (p k : Int) : (clP p k).1.length ≤ 8 := by
  unfold clP
  split
  · next h =>
    rcases rootsT_cases p with h2 | h2
    · exact absurd h2 h.1
    · exact Nat.le_of_eq (lineC_len h2 h.2.1 h.2.2)
  · simp

end Go.Proofs.Ytmenehnfgenlpaa.PA
namespace Go.Proofs.Ytmenehnfgenlpaa.PA
open Go.RowKit Go.Proofs.YtmenehnfgenlpaaW.PrintWords Go.Proofs.YtmenehnfgenlpaaW.PrintLast Go.Proofs.YtmenehnfgenlpaaW.PrintMore
set_option linter.unusedVariables false
set_option linter.unusedSimpArgs false

theorem iRoots_table : ∀ p ∈ ([7, 11, 13, 17, 19, 23, 29, 31] : List Int), impl_cubeRoots.f 60 p = some (rootsT p) := by decide +kernel
theorem iRoots_ev (p : Int) : Ev (fun k => impl_cubeRoots.f k p) (rootsT p) := by
  cases hp : primeB p with
  | true => exact Ev.of (impl_cubeRoots.mono p) (iRoots_table p (by have := primeB_cases hp; simp; omega))
  | false =>
    unfold impl_cubeRoots.f
    refine Ev.bind (isPrime_ev p) ?_
    rw [hp, rootsT_not hp]
    exact Ev.no (by simp) (Ev.now _)

end Go.Proofs.Ytmenehnfgenlpaa.PA
namespace Go.Proofs.Ytmenehnfgenlpaa.PA
open Go.RowKit Go.Proofs.YtmenehnfgenlpaaW.PrintWords Go.Proofs.YtmenehnfgenlpaaW.PrintLast Go.Proofs.YtmenehnfgenlpaaW.PrintMore
set_option linter.unusedVariables false
set_option linter.unusedSimpArgs false

theorem icubeLine_table : ∀ p ∈ ([7, 13, 19, 31] : List Int), ∀ k ∈ List.range 27, impl_cubeLine.f 60 p (rootsT p) (k : Int) = some (lineC p (k : Int)) := by decide +kernel
theorem icubeLine_ev {p k : Int} (hp : p = 7 ∨ p = 13 ∨ p = 19 ∨ p = 31) (h0 : 0 ≤ k) (h1 : k < 27) : Ev (fun n => impl_cubeLine.f n p (rootsT p) k) (lineC p k) := by
  have h := icubeLine_table p (by simp; omega) k.toNat (by simp; omega)
  rw [show ((k.toNat : Nat) : Int) = k by omega] at h
  exact Ev.of (impl_cubeLine.mono _ _ _) h

end Go.Proofs.Ytmenehnfgenlpaa.PA
namespace Go.Proofs.Ytmenehnfgenlpaa.PA
open Go.RowKit Go.Proofs.YtmenehnfgenlpaaW.PrintWords Go.Proofs.YtmenehnfgenlpaaW.PrintLast Go.Proofs.YtmenehnfgenlpaaW.PrintMore
set_option linter.unusedVariables false
set_option linter.unusedSimpArgs false

theorem iCubeLine_ev (p k : Int) : Ev (fun n => impl_CubeLine.f n p k) (clP p k) := by
  unfold impl_CubeLine.f clP
  refine Ev.bind (iRoots_ev p) ?_
  rcases rootsT_cases p with h | h
  · rw [h, if_neg (by simp)]; exact Ev.no (by simp) (Ev.now _)
  · have hl : (rootsT p).length = 3 := by rcases h with rfl | rfl | rfl | rfl <;> rfl
    have hne : rootsT p ≠ [] := by intro e; rw [e] at hl; simp at hl
    refine Ev.yes (by omega) ?_
    by_cases h0 : 0 ≤ k
    · refine Ev.bind (a := decide (k < 27)) (Ev.k (by unfold impl_isLine.f; rw [if_pos (by omega)])) ?_
      by_cases h1 : k < 27
      · rw [if_pos ⟨hne, h0, h1⟩, decide_eq_true h1]
        exact Ev.yes rfl (Ev.bind (icubeLine_ev h h0 h1) (Ev.now _))
      · rw [if_neg (fun e => h1 e.2.2), decide_eq_false h1]
        exact Ev.no (by simp) (Ev.now _)
    · refine Ev.bind (a := false) (Ev.k (by unfold impl_isLine.f; rw [if_neg (by omega)])) ?_
      rw [if_neg (fun e => h0 e.2.1)]
      exact Ev.no (by simp) (Ev.now _)

end Go.Proofs.Ytmenehnfgenlpaa.PA
namespace Go.Proofs.Ytmenehnfgenlpaa.PA
open Go.RowKit Go.Proofs.YtmenehnfgenlpaaW.PrintWords Go.Proofs.YtmenehnfgenlpaaW.PrintLast Go.Proofs.YtmenehnfgenlpaaW.PrintMore
set_option linter.unusedVariables false
set_option linter.unusedSimpArgs false

/-- two lines that cross -/
def crossB (p : Int) (l m : List Int) : Bool := lineB p l && lineB p m && decide (rankP p 4 [l.take 4, l.drop 4, m.take 4, m.drop 4] = 3)
theorem four_ok {p : Int} {l m : List Int} (hl : numsB p l 8 = true) (hm : numsB p m 8 = true) : okR p 4 [l.take 4, l.drop 4, m.take 4, m.drop 4] := okR_app (halves_ok hl) (halves_ok hm)

end Go.Proofs.Ytmenehnfgenlpaa.PA
namespace Go.Proofs.Ytmenehnfgenlpaa.PA
open Go.RowKit Go.Proofs.YtmenehnfgenlpaaW.PrintWords Go.Proofs.YtmenehnfgenlpaaW.PrintLast Go.Proofs.YtmenehnfgenlpaaW.PrintMore
set_option linter.unusedVariables false
set_option linter.unusedSimpArgs false

/-- whether two lines of cubes cross -/
def cellC (p : Int) (i j : Nat) : Bool := crossB p (lineC p (i : Int)) (lineC p (j : Int))
/-- the row of a line in the table -/
def rowC (p : Int) (i : Nat) : List Bool := (List.range 27).map (cellC p i)
/-- the lines that cross a line -/
def meetC (p : Int) (k : Nat) : List Int := ((List.range 27).filter (cellC p k)).map fun (j : Nat) => (j : Int)
theorem lineC_line_t : ∀ p ∈ ([7, 13, 19, 31] : List Int), ∀ k ∈ List.range 27, lineB p (lineC p (k : Int)) = true := by decide +kernel
theorem lineC_lineB {p : Int} (hp : p = 7 ∨ p = 13 ∨ p = 19 ∨ p = 31) {k : Nat} (hk : k < 27) : lineB p (lineC p (k : Int)) = true := lineC_line_t p (by simp; omega) k (by simp; omega)
theorem lineC_nums {p : Int} (hp : p = 7 ∨ p = 13 ∨ p = 19 ∨ p = 31) {k : Nat} (hk : k < 27) : numsB p (lineC p (k : Int)) 8 = true := by
  have h := lineC_lineB hp hk
  rw [lineB, Bool.and_eq_true] at h
  exact h.1
theorem cell_self_t : ∀ p ∈ ([7, 13, 19, 31] : List Int), ∀ k ∈ List.range 27, cellC p k k = false := by decide +kernel
theorem cell_self {p : Int} (hp : p = 7 ∨ p = 13 ∨ p = 19 ∨ p = 31) {k : Nat} (hk : k < 27) : cellC p k k = false := cell_self_t p (by simp; omega) k (by simp; omega)
theorem cell_rank {p : Int} (hp : p = 7 ∨ p = 13 ∨ p = 19 ∨ p = 31) {i j : Nat} (hi : i < 27) (hj : j < 27) : decide (rankP p 4 [(lineC p (i : Int)).take 4, (lineC p (i : Int)).drop 4, (lineC p (j : Int)).take 4, (lineC p (j : Int)).drop 4] = 3) = cellC p i j := by
  unfold cellC crossB
  rw [lineC_lineB hp hi, lineC_lineB hp hj]
  simp
/-- what CubeMeeting returns -/
def meetP (p k : Int) : List Int × Bool := if rootsT p ≠ [] ∧ 0 ≤ k ∧ k < 27 then (meetC p k.toNat, true) else ([], false)
theorem meetP_len (p k : Int) : (meetP p k).1.length ≤ 27 := by
  unfold meetP
  split
  · show (meetC p k.toNat).length ≤ 27
    rw [meetC, List.length_map]
    have := List.length_filter_le (cellC p k.toNat) (List.range 27)
    rwa [List.length_range] at this
  · simp

end Go.Proofs.Ytmenehnfgenlpaa.PA
namespace Go.Proofs.Ytmenehnfgenlpaa.PA
open Go.RowKit Go.Proofs.YtmenehnfgenlpaaW.PrintWords Go.Proofs.YtmenehnfgenlpaaW.PrintLast Go.Proofs.YtmenehnfgenlpaaW.PrintMore
set_option linter.unusedVariables false
set_option linter.unusedSimpArgs false

/-- the first number that is not 0 (0 if there is none) -/
def headP (l : List Int) : Int := (l.find? (fun x => x != 0)).getD 0
/-- a row divided by its first number that is not 0 -/
def rowP (p : Int) (l : List Int) : List Int := l.map fun x => x * invP p (headP l) % p
theorem headP_cons (x : Int) (l : List Int) : headP (x :: l) = if x = 0 then headP l else x := by
  unfold headP
  by_cases h : x = 0
  · simp [h]
  · simp [h]
theorem headP_range {p : Int} {l : List Int} (hr : ∀ x ∈ l, 0 ≤ x ∧ x < p) (hp : 0 < p) : 0 ≤ headP l ∧ headP l < p := by
  unfold headP
  cases h : l.find? (fun x => x != 0) with
  | none => simp; omega
  | some y => exact hr y (List.mem_of_find?_eq_some h)
theorem mul30 {p x y : Int} (hp : p ≤ 31) (h0 : 0 ≤ x) (h1 : x < p) (h2 : 0 ≤ y) (h3 : y < p) : 0 ≤ x * y ∧ x * y ≤ 900 := by
  have h := Int.mul_le_mul (show x ≤ 30 by omega) (show y ≤ 30 by omega) h2 (by omega)
  exact ⟨Int.mul_nonneg h0 h2, by omega⟩
theorem l4Row_l {p : Int} (hp : primeB p = true) (l : List Int) (hr : ∀ x ∈ l, 0 ≤ x ∧ x < p) (hl : l.length ≤ 1000) : ∀ (d i : Nat) (acc : List Int) (n : Int), i + d = l.length → acc.length = i → (n = 0 ∨ 0 ≤ n ∧ n < p) →
    Ev (fun k => spec_l4Row.l0 k p l acc n (i : Int)) (acc ++ (l.drop i).map fun x => x * (if n = 0 then invP p (headP (l.drop i)) else n) % p)
  | 0, i, acc, n, h, ha, hn => by
    refine Ev.step (f := fun _ => some acc) (fun k => ?_) ?_
    · rw [spec_l4Row.l0, if_neg (by omega)]
    · rw [List.drop_eq_nil_of_le (by omega)]; simpa using Ev.now acc
  | d + 1, i, acc, n, h, ha, hn => by
    have hb := prime_bd hp
    have hi : i < l.length := by omega
    have hx := hr _ (List.getElem_mem hi)
    rw [← rd_at l i hi] at hx
    rw [rd_drop l i hi]
    by_cases h0 : n = 0
    · have hv := invP_spec hp hx.1 hx.2
      have hm := mul30 hb.2 hx.1 hx.2 hv.2.1 hv.2.2.1
      refine Ev.step (f := fun k => (spec_l4Turned.f k p (rd l (i : Int))).bind fun t => spec_l4Row.l0 k p l (acc ++ [Int.tmod (wrap64 ((rd l (i : Int)) * t)) p]) t ((i + 1 : Nat) : Int)) (fun k => ?_) (Ev.bind (turned_ev hp hx.1 hx.2) ?_)
      · rw [spec_l4Row.l0, if_pos (by omega), if_pos h0, if_pos (by omega)]
        congr 1
        funext t
        rw [if_neg (by omega), if_pos (by omega), wsm (i := (i : Int) + 1) (by omega) (by omega)]
        rfl
      · have ih := l4Row_l hp l hr hl d (i + 1) (acc ++ [Int.tmod (wrap64 ((rd l (i : Int)) * invP p (rd l (i : Int)))) p]) (invP p (rd l (i : Int))) (by omega) (by simp [ha]) (.inr ⟨hv.2.1, hv.2.2.1⟩)
        rw [wsm (by omega) (by omega), Int.tmod_eq_emod_of_nonneg hm.1] at ih ⊢
        rw [List.append_assoc] at ih
        rw [headP_cons, if_pos h0]
        by_cases hz : rd l (i : Int) = 0
        · rw [if_pos hz]
          rw [if_pos (hv.2.2.2.2 hz)] at ih
          simp only [hz, Int.zero_mul, List.map_cons] at ih ⊢
          exact ih
        · rw [if_neg hz]
          rw [if_neg (invP_ne hp hx.1 hx.2 hz)] at ih
          simpa using ih
    · have hn' : 0 ≤ n ∧ n < p := by rcases hn with h | h; exact absurd h h0; exact h
      have hm := mul30 hb.2 hx.1 hx.2 hn'.1 hn'.2
      refine Ev.step (f := fun k => spec_l4Row.l0 k p l (acc ++ [Int.tmod (wrap64 ((rd l (i : Int)) * n)) p]) n ((i + 1 : Nat) : Int)) (fun k => ?_) ?_
      · rw [spec_l4Row.l0, if_pos (by omega), if_neg h0, if_pos (by omega), if_neg (by omega), if_pos (by omega), wsm (i := (i : Int) + 1) (by omega) (by omega)]
        rfl
      · have ih := l4Row_l hp l hr hl d (i + 1) (acc ++ [Int.tmod (wrap64 ((rd l (i : Int)) * n)) p]) n (by omega) (by simp [ha]) hn
        rw [wsm (by omega) (by omega), Int.tmod_eq_emod_of_nonneg hm.1] at ih ⊢
        rw [if_neg h0] at ih ⊢
        simpa using ih
theorem l4Row_ev {p : Int} (hp : primeB p = true) (l : List Int) (hr : ∀ x ∈ l, 0 ≤ x ∧ x < p) (hl : l.length ≤ 1000) : Ev (fun k => spec_l4Row.f k p l) (rowP p l) := by
  have := l4Row_l hp l hr hl l.length 0 [] 0 (by omega) rfl (.inl rfl)
  unfold spec_l4Row.f
  simpa [rowP] using this

end Go.Proofs.Ytmenehnfgenlpaa.PA
namespace Go.Proofs.Ytmenehnfgenlpaa.PA
open Go.RowKit Go.Proofs.YtmenehnfgenlpaaW.PrintWords Go.Proofs.YtmenehnfgenlpaaW.PrintLast Go.Proofs.YtmenehnfgenlpaaW.PrintMore
set_option linter.unusedVariables false
set_option linter.unusedSimpArgs false

theorem inverse_table : ∀ p ∈ ([7, 11, 13, 17, 19, 23, 29, 31] : List Int), ∀ x ∈ List.range 31, (x : Int) < p → (x : Int) ≠ 0 → impl_inverse.f 40 (x : Int) p = some (invP p (x : Int)) := by decide +kernel
theorem inverse_ev {p : Int} (hp : primeB p = true) {x : Int} (h0 : 0 ≤ x) (h1 : x < p) (hx : x ≠ 0) : Ev (fun k => impl_inverse.f k x p) (invP p x) := by
  have hb := prime_bd hp
  refine Ev.of (impl_inverse.mono x p) (k := 40) ?_
  have h2 := inverse_table p (by have := primeB_cases hp; simp; omega) x.toNat (by simp; omega) (by omega) (by omega)
  rwa [show ((x.toNat : Nat) : Int) = x by omega] at h2
theorem tmod_bd {p : Int} (hp : 0 < p) (x : Int) : -p < Int.tmod x p ∧ Int.tmod x p < p := by
  refine ⟨?_, Int.tmod_lt_of_pos x hp⟩
  have h1 := Int.tmod_lt_of_pos (-x) hp
  rw [Int.neg_tmod] at h1
  omega
theorem tmod_emod {p : Int} (x : Int) : (Int.tmod x p + p) % p = x % p := by
  have h := Int.mul_tdiv_add_tmod x p
  have e : x = Int.tmod x p + p * x.tdiv p := by omega
  rw [Int.add_emod_right]
  conv => rhs; rw [e, Int.add_mul_emod_self_left]
theorem tmod_small {x p : Int} (hp : 7 ≤ p ∧ p ≤ 31) (h0 : -1000000000 ≤ x) (h1 : x ≤ 1000000000) : modV p (wrap64 x) = x % p := by
  rw [wsm (by omega) (by omega), modV]
  have hb := tmod_bd (p := p) (by omega) x
  rw [wsm (by omega) (by omega), Int.tmod_eq_emod_of_nonneg (by omega), tmod_emod]
theorem lessFrom_eq {p t : Int} (hp : 7 ≤ p ∧ p ≤ 31) (ht : 0 ≤ t ∧ t < p) (h : List Int) (hh : ∀ x ∈ h, 0 ≤ x ∧ x < p) : ∀ (r : List Int) (i : Nat), (∀ x ∈ r, 0 ≤ x ∧ x < p) → i + r.length = h.length → lessFrom p t h i r = lessP p t (h.drop i) r
  | [], _, _, _ => by simp [lessFrom, lessP]
  | x :: r, i, hr, hl => by
    have hx := hr x (by simp)
    simp only [List.length_cons] at hl
    have hy : 0 ≤ rd h (i : Int) ∧ rd h (i : Int) < p := by rw [rd_at h i (by omega)]; exact hh _ (List.getElem_mem _)
    have hm := mul30 hp.2 ht.1 ht.2 hy.1 hy.2
    rw [rd_drop h i (by omega), lessFrom, lessFrom_eq hp ht h hh r (i + 1) (fun z hz => hr z (by simp [hz])) (by omega), wsm (i := t * rd h (i : Int)) (by omega) (by omega), tmod_small hp (by omega) (by omega)]
    simp [lessP]
theorem lessRow_eq {p : Int} {w : Nat} (hp : 7 ≤ p ∧ p ≤ 31) (c : Nat) (hc : c < w) {h r : List Int} (hh : h.length = w ∧ ∀ x ∈ h, 0 ≤ x ∧ x < p) (hr : r.length = w ∧ ∀ x ∈ r, 0 ≤ x ∧ x < p) : lessRow p c h r = lessP p (rd r (c : Int)) h r := by
  rw [lessRow, lessFrom_eq hp (ok_rd hr c hc) h hh.2 r 0 hr.2 (by omega), List.drop_zero]
theorem scaleRow_eq {p b : Int} {w : Nat} (hp : 7 ≤ p ∧ p ≤ 31) (hb : 0 ≤ b ∧ b < p) {r : List Int} (hr : r.length = w ∧ ∀ x ∈ r, 0 ≤ x ∧ x < p) : scaleRow p b r = scaleP p b r := by
  rw [scaleRow, scaleP]
  refine List.map_congr_left fun x hx => ?_
  have h1 := hr.2 x hx
  have hm := mul30 hp.2 h1.1 h1.2 hb.1 hb.2
  rw [wsm (by omega) (by omega), Int.tmod_eq_emod_of_nonneg hm.1]
theorem redCols_ev {p : Int} (hp : primeB p = true) {w : Nat} : ∀ (d c : Nat) (L O : List (List Int)), c + d = w → okR p w L → okR p w O → Ev (fun k => redCols k p d c L O) (redP p d c L O)
  | 0, _, _, O, _, _, _ => Ev.k rfl
  | d + 1, c, L, O, hw, hL, hO => by
    have hb := prime_bd hp
    unfold redCols redP
    cases hf : L.findIdx? (fun row => rd row (c : Int) != 0) with
    | none => exact redCols_ev hp d (c + 1) L O (by omega) hL hO
    | some i =>
      simp only
      obtain ⟨hi, hne⟩ := find_lt hf
      have hx := hL _ (mem_getD hi)
      have hxr := ok_rd hx c (by omega)
      have hne' : rd (L.getD i []) (c : Int) ≠ 0 := by simpa using hne
      have hinv := invP_spec hp hxr.1 hxr.2
      refine Ev.bind (inverse_ev hp hxr.1 hxr.2 hne') ?_
      have hs := scale_ok (p := p) (b := invP p (rd (L.getD i []) (c : Int))) (by omega) hx.1
      rw [scaleRow_eq hb ⟨hinv.2.1, hinv.2.2.1⟩ hx]
      have e1 : ∀ M : List (List Int), okR p w M → M.map (lessRow p c (scaleP p (invP p (rd (L.getD i []) (c : Int))) (L.getD i []))) = M.map fun r => lessP p (rd r (c : Int)) (scaleP p (invP p (rd (L.getD i []) (c : Int))) (L.getD i [])) r :=
        fun M hM => List.map_congr_left fun r hr => lessRow_eq hb c (by omega) hs (hM r hr)
      rw [e1 _ (okR_erase i hL), e1 _ hO]
      exact redCols_ev hp d (c + 1) _ _ (by omega) (okR_less _ (by omega) hs.1 (okR_erase i hL)) (okR_app (okR_less _ (by omega) hs.1 hO) (okR_cons hs (okR_nil p w)))
/-- reduced, on rows of one length -/
theorem reduced_ev {p : Int} (hp : primeB p = true) {w : Nat} (L : List (List Int)) (hw : w < 1000000) (hl : L.length < 1000000) (hL : ∀ r ∈ L, r.length = w) : Ev (fun k => impl_reduced.f k p L) (redP p w 0 (L.map fun r => r.map (modV p)) []) := by
  have hb := prime_bd hp
  have hok : okR p w (L.map fun r => r.map (modV p)) := fun x hx => by
    obtain ⟨r, hr, rfl⟩ := List.mem_map.1 hx
    refine ⟨by rw [List.length_map, hL r hr], fun y hy => ?_⟩
    obtain ⟨z, _, rfl⟩ := List.mem_map.1 hy
    have h2 := tmod_bd (p := p) (by omega) z
    rw [modV, wsm (by omega) (by omega), Int.tmod_eq_emod_of_nonneg (by omega)]
    exact ⟨Int.emod_nonneg _ (by omega), Int.emod_lt_of_pos _ (by omega)⟩
  cases L with
  | nil =>
    have e : ∀ d c, redP p d c [] [] = [] := fun d => by
      induction d with
      | zero => intro c; rfl
      | succ d ih => intro c; rw [redP]; exact ih (c + 1)
    rw [List.map_nil, e]
    refine Ev.k (α := List (List Int)) (x := some []) rfl |>.congr fun k => ?_
    rw [impl_reduced.f, if_neg (by omega), if_pos ⟨by simp, by simp, by simp⟩]
    simp [redCols]
  | cons r L =>
    have hr := hL r (by simp)
    refine (redCols_ev hp w 0 _ [] (by omega) hok (okR_nil p w)).congr fun k => ?_
    rw [impl_reduced.f, if_neg (by omega), if_pos ⟨hl, by simpa [hr] using hw, by simpa [hr] using hL⟩]
    simp [hr]
theorem modV_self {p x : Int} (hp : primeB p = true) (h0 : 0 ≤ x) (h1 : x < p) : modV p x = x := by
  have hb := prime_bd hp
  rw [modV, Int.tmod_eq_of_lt h0 h1, wsm (by omega) (by omega), Int.tmod_eq_emod_of_nonneg (by omega), Int.add_emod_right, Int.emod_eq_of_lt h0 h1]
theorem reduced_ok {p : Int} (hp : primeB p = true) {w : Nat} (L : List (List Int)) (hw : w < 1000000) (hl : L.length < 1000000) (hL : okR p w L) : Ev (fun k => impl_reduced.f k p L) (redP p w 0 L []) := by
  have h := reduced_ev hp L hw hl (fun r hr => (hL r hr).1)
  have e : (L.map fun r => r.map (modV p)) = L := by
    rw [List.map_congr_left (g := id)]
    · simp
    · intro r hr
      rw [List.map_congr_left (g := id)]
      · simp
      · intro x hx; have := (hL r hr).2 x hx; exact modV_self hp this.1 this.2
  rwa [e] at h

end Go.Proofs.Ytmenehnfgenlpaa.PA
namespace Go.Proofs.Ytmenehnfgenlpaa.PA
open Go.RowKit Go.Proofs.YtmenehnfgenlpaaW.PrintWords Go.Proofs.YtmenehnfgenlpaaW.PrintLast Go.Proofs.YtmenehnfgenlpaaW.PrintMore
set_option linter.unusedVariables false
set_option linter.unusedSimpArgs false

theorem spanOf_l (M : List (List Int)) {w : Nat} (hw : w ≤ 1000) (hM : ∀ r ∈ M, r.length = w) (hl : M.length ≤ 1000000) : ∀ (d i : Nat), i + d = M.length → Ev (fun k => impl_spanOf.l0 k (M.take i).flatten M (M.length : Int) (i : Int)) M.flatten
  | 0, i, h => by
    refine Ev.step (f := fun _ => some M.flatten) (fun k => ?_) (Ev.now _)
    rw [impl_spanOf.l0, if_neg (by omega), List.take_of_length_le (by omega)]
  | d + 1, i, h => by
    have hi : i < M.length := by omega
    refine Ev.step (f := fun k => impl_spanOf.l0 k (M.take (i + 1)).flatten M (M.length : Int) ((i + 1 : Nat) : Int)) (fun k => ?_) (spanOf_l M hw hM hl d (i + 1) (by omega))
    have e1 : (M.take (i + 1)).flatten = (M.take i).flatten ++ M.getD i [] := by
      rw [List.take_add_one, List.flatten_append, List.getD_eq_getElem?_getD, List.getElem?_eq_getElem hi]; simp
    have e2 : rd_L1 M (i : Int) = M.getD i [] := by simp [rd_L1]
    have h1 : (M.take i).flatten.length = i * w := by rw [flat_len _ (fun r hr => hM r (List.mem_of_mem_take hr)), List.length_take, Nat.min_eq_left (by omega)]
    have h2 : (M.getD i []).length = w := hM _ (mem_getD hi)
    have h3 : i * w ≤ 1000000 * 1000 := Nat.mul_le_mul (by omega) hw
    rw [impl_spanOf.l0, if_pos (by omega), if_pos (by omega), if_pos (by omega), e2, if_pos (by omega), e1, wsm (by omega) (by omega)]
    rfl
theorem spanOf_ev {p : Int} (hp : primeB p = true) {w : Nat} (hw : w ≤ 1000) (L : List (List Int)) (hL : okR p w L) (hl : L.length ≤ 1000) : Ev (fun k => impl_spanOf.f k p L) (spanP p w L) := by
  unfold impl_spanOf.f
  have hb := prime_bd hp
  have hlen := redP_len p w 0 L []
  simp at hlen
  refine Ev.bind (reduced_ok hp L (by omega) (by omega) hL) ?_
  have h := spanOf_l (redP p w 0 L []) hw (fun r hr => (redP_ok (by omega) w 0 L [] hL (okR_nil p w) r hr).1) (by omega) (redP p w 0 L []).length 0 (by omega)
  simpa [spanP] using h
theorem rowsOf_eq (l : List Int) (h : 4 ≤ l.length) : impl_rowsOf.f l = some [l.take 4, l.drop 4] := by
  rw [impl_rowsOf.f, if_pos (by omega)]

end Go.Proofs.Ytmenehnfgenlpaa.PA
namespace Go.Proofs.Ytmenehnfgenlpaa.PA
open Go.RowKit Go.Proofs.YtmenehnfgenlpaaW.PrintWords Go.Proofs.YtmenehnfgenlpaaW.PrintLast Go.Proofs.YtmenehnfgenlpaaW.PrintMore
set_option linter.unusedVariables false
set_option linter.unusedSimpArgs false

theorem crosses_ev {p : Int} {l m : List Int} (hl : numsB p l 8 = true) (hm : numsB p m 8 = true) : Ev (fun k => impl_crosses.f k p l m) (decide (rankP p 4 [l.take 4, l.drop 4, m.take 4, m.drop 4] = 3)) := by
  unfold impl_crosses.f
  refine Ev.bind (Ev.k (rowsOf_eq l (by have := (numsB_prime hl).2.1; omega))) (Ev.bind (Ev.k (rowsOf_eq m (by have := (numsB_prime hm).2.1; omega))) (Ev.yes (by simp) ?_))
  refine Ev.bind (reduced_ok (numsB_prime hl).1 (w := 4) _ (by omega) (by simp) (four_ok hl hm)) ?_
  have e : (((redP p 4 0 ([l.take 4, l.drop 4] ++ [m.take 4, m.drop 4]) []).length : Int) == 3) = decide (rankP p 4 [l.take 4, l.drop 4, m.take 4, m.drop 4] = 3) := by
    rw [rankP, Bool.eq_iff_iff]; simp; omega
  rw [e]; exact Ev.now _

end Go.Proofs.Ytmenehnfgenlpaa.PA
namespace Go.Proofs.Ytmenehnfgenlpaa.PA
open Go.RowKit Go.Proofs.YtmenehnfgenlpaaW.PrintWords Go.Proofs.YtmenehnfgenlpaaW.PrintLast Go.Proofs.YtmenehnfgenlpaaW.PrintMore
set_option linter.unusedVariables false
set_option linter.unusedSimpArgs false

theorem mapO_ev {α β : Type} {f : Nat → α → Option β} {g : α → β} : ∀ l : List α, (∀ x ∈ l, Ev (fun k => f k x) (g x)) → Ev (fun k => mapO (f k) l) (l.map g)
  | [], _ => Ev.now _
  | x :: l, h => by
    show Ev (fun k => (f k x).bind fun b => (mapO (f k) l).bind fun r => some (b :: r)) (g x :: l.map g)
    exact Ev.bind (h x List.mem_cons_self) (Ev.bind (mapO_ev l fun y hy => h y (List.mem_cons_of_mem _ hy)) (Ev.now _))
theorem tabCell_ev {p : Int} (hp : p = 7 ∨ p = 13 ∨ p = 19 ∨ p = 31) {i j : Nat} (hi : i < 27) (hj : j < 27) : Ev (fun k => tabCell k p (rootsT p) i j) (cellC p i j) := by
  unfold tabCell
  by_cases e : i = j
  · subst e
    rw [cell_self hp hi]
    exact Ev.yes rfl (Ev.now _)
  · refine Ev.no e (Ev.bind (icubeLine_ev hp (by omega) (by omega)) (Ev.bind (icubeLine_ev hp (by omega) (by omega)) ?_))
    rw [← cell_rank hp hi hj]
    exact crosses_ev (lineC_nums hp hi) (lineC_nums hp hj)
def tabT (p : Int) : List Bool := (List.range 729).map fun n => cellC p (n / 27) (n % 27)
theorem cubeTable_ev {p : Int} (hp : p = 7 ∨ p = 13 ∨ p = 19 ∨ p = 31) : Ev (fun k => impl_cubeTable.f k p (rootsT p)) (tabT p) := by
  unfold impl_cubeTable.f tabT
  refine mapO_ev _ fun n hn => ?_
  have := List.mem_range.1 hn
  exact tabCell_ev hp (by omega) (by omega)
theorem tabT_get {p : Int} {i j : Nat} (hi : i < 27) (hj : j < 27) : (tabT p).getD (27 * i + j) false = cellC p i j := by
  rw [tabT, List.getD_eq_getElem?_getD, List.getElem?_map, List.getElem?_range (by omega)]
  show cellC p ((27 * i + j) / 27) ((27 * i + j) % 27) = _
  rw [show (27 * i + j) / 27 = i by omega, show (27 * i + j) % 27 = j by omega]

end Go.Proofs.Ytmenehnfgenlpaa.PA
namespace Go.Proofs.Ytmenehnfgenlpaa.PA
open Go.RowKit Go.Proofs.YtmenehnfgenlpaaW.PrintWords Go.Proofs.YtmenehnfgenlpaaW.PrintLast Go.Proofs.YtmenehnfgenlpaaW.PrintMore
set_option linter.unusedVariables false
set_option linter.unusedSimpArgs false

theorem iCubeMeeting_ev (p k : Int) : Ev (fun n => impl_CubeMeeting.f n p k) (meetP p k) := by
  unfold impl_CubeMeeting.f meetP
  refine Ev.bind (iRoots_ev p) ?_
  rcases rootsT_cases p with h | h
  · rw [h, if_neg (by simp)]; exact Ev.no (by simp) (Ev.now _)
  · have hl : (rootsT p).length = 3 := by rcases h with rfl | rfl | rfl | rfl <;> rfl
    have hne : rootsT p ≠ [] := by intro e; rw [e] at hl; simp at hl
    refine Ev.yes hl ?_
    by_cases h0 : 0 ≤ k
    · refine Ev.bind (a := decide (k < 27)) (Ev.k (by unfold impl_isLine.f; rw [if_pos (by omega)])) ?_
      by_cases h1 : k < 27
      · rw [if_pos ⟨hne, h0, h1⟩, decide_eq_true h1]
        refine Ev.yes rfl (Ev.bind (cubeTable_ev h) ?_)
        have e : (List.range 27).filter (fun j => (tabT p).getD (27 * k.toNat + j) false) = (List.range 27).filter (cellC p k.toNat) := List.filter_congr fun j hj => tabT_get (by omega) (List.mem_range.1 hj)
        rw [e]
        exact Ev.now _
      · rw [if_neg (fun e => h1 e.2.2), decide_eq_false h1]
        exact Ev.no (by simp) (Ev.now _)
    · refine Ev.bind (a := false) (Ev.k (by unfold impl_isLine.f; rw [if_neg (by omega)])) ?_
      rw [if_neg (fun e => h0 e.2.1)]
      exact Ev.no (by simp) (Ev.now _)

end Go.Proofs.Ytmenehnfgenlpaa.PA
namespace Go.Proofs.Ytmenehnfgenlpaa.PA
open Go.RowKit Go.Proofs.YtmenehnfgenlpaaW.PrintWords Go.Proofs.YtmenehnfgenlpaaW.PrintLast Go.Proofs.YtmenehnfgenlpaaW.PrintMore
set_option linter.unusedVariables false
set_option linter.unusedSimpArgs false

theorem sRoots_table : ∀ p ∈ ([7, 11, 13, 17, 19, 23, 29, 31] : List Int), spec_CubeRoots.f 60 p = some (rootsT p, decide (rootsT p ≠ [])) := by decide +kernel
theorem sRoots_ev (p : Int) : Ev (fun k => spec_CubeRoots.f k p) (rootsT p, decide (rootsT p ≠ [])) := by
  cases hp : primeB p with
  | true => exact Ev.of (spec_CubeRoots.mono p) (sRoots_table p (by have := primeB_cases hp; simp; omega))
  | false =>
    unfold spec_CubeRoots.f
    refine Ev.bind (Ev.k (PrimeIn_eq p)) ?_
    rw [hp, rootsT_not hp]
    exact Ev.no (by simp) (Ev.now _)

end Go.Proofs.Ytmenehnfgenlpaa.PA
namespace Go.Proofs.Ytmenehnfgenlpaa.PA
open Go.RowKit Go.Proofs.YtmenehnfgenlpaaW.PrintWords Go.Proofs.YtmenehnfgenlpaaW.PrintLast Go.Proofs.YtmenehnfgenlpaaW.PrintMore
set_option linter.unusedVariables false
set_option linter.unusedSimpArgs false

theorem sl8Line_table : ∀ p ∈ ([7, 13, 19, 31] : List Int), ∀ k ∈ List.range 27, spec_l8Line.f 60 p (rootsT p) (k : Int) = some (lineC p (k : Int)) := by decide +kernel
theorem sl8Line_ev {p k : Int} (hp : p = 7 ∨ p = 13 ∨ p = 19 ∨ p = 31) (h0 : 0 ≤ k) (h1 : k < 27) : Ev (fun n => spec_l8Line.f n p (rootsT p) k) (lineC p k) := by
  have h := sl8Line_table p (by simp; omega) k.toNat (by simp; omega)
  rw [show ((k.toNat : Nat) : Int) = k by omega] at h
  exact Ev.of (spec_l8Line.mono _ _ _) h

end Go.Proofs.Ytmenehnfgenlpaa.PA
namespace Go.Proofs.Ytmenehnfgenlpaa.PA
open Go.RowKit Go.Proofs.YtmenehnfgenlpaaW.PrintWords Go.Proofs.YtmenehnfgenlpaaW.PrintLast Go.Proofs.YtmenehnfgenlpaaW.PrintMore
set_option linter.unusedVariables false
set_option linter.unusedSimpArgs false

theorem l4Mod_eq (p x : Int) (hp : p ≠ 0) : spec_l4Mod.f p x = some (modV p x) := by rw [spec_l4Mod.f, if_neg hp]; rfl
theorem l4Less_l {p t : Int} {w : Nat} (hp : 7 ≤ p ∧ p ≤ 31) (ht : 0 ≤ t ∧ t < p) {h r : List Int} (hh : h.length = w ∧ ∀ x ∈ h, 0 ≤ x ∧ x < p) (hr : r.length = w ∧ ∀ x ∈ r, 0 ≤ x ∧ x < p) (hw : w ≤ 1000) : ∀ (d i : Nat), i + d = w → Ev (fun k => spec_l4Less.l0 k p r t h ((lessP p t h r).take i) (i : Int)) (lessP p t h r)
  | 0, i, he => by
    have hl := (less_ok (p := p) (t := t) (by omega) hh.1 hr.1).1
    refine Ev.step (f := fun _ => some (lessP p t h r)) (fun k => ?_) (Ev.now _)
    rw [spec_l4Less.l0, if_neg (by omega), List.take_of_length_le (by omega)]
  | d + 1, i, he => by
    have hl := (less_ok (p := p) (t := t) (by omega) hh.1 hr.1).1
    have hx := ok_rd hr i (by omega)
    have hy := ok_rd hh i (by omega)
    have hm := mul30 hp.2 ht.1 ht.2 hy.1 hy.2
    refine Ev.step (f := fun k => spec_l4Less.l0 k p r t h ((lessP p t h r).take (i + 1)) ((i + 1 : Nat) : Int)) (fun k => ?_) (l4Less_l hp ht hh hr hw d (i + 1) (by omega))
    rw [spec_l4Less.l0, if_pos (by omega), if_pos (by omega), if_pos (by omega), l4Mod_eq _ _ (by omega), Option.bind_some, if_pos (by simp; omega), wsm (i := (i : Int) + 1) (by omega) (by omega), wsm (i := t * rd h (i : Int)) (by omega) (by omega), tmod_small hp (by omega) (by omega)]
    have e : (lessP p t h r).take (i + 1) = (lessP p t h r).take i ++ [(rd r (i : Int) - t * rd h (i : Int)) % p] := by
      rw [List.take_add_one, List.getElem?_eq_getElem (by omega), ← rd_at (lessP p t h r) i (by omega), rd_less i (by omega) (by omega)]
      rfl
    rw [e]
    rfl
theorem l4Less_ev {p t : Int} {w : Nat} (hp : 7 ≤ p ∧ p ≤ 31) (ht : 0 ≤ t ∧ t < p) {h r : List Int} (hh : h.length = w ∧ ∀ x ∈ h, 0 ≤ x ∧ x < p) (hr : r.length = w ∧ ∀ x ∈ r, 0 ≤ x ∧ x < p) (hw : w ≤ 1000) : Ev (fun k => spec_l4Less.f k p r t h) (lessP p t h r) := by
  unfold spec_l4Less.f
  simpa using l4Less_l hp ht hh hr hw w 0 (by omega)
theorem rdL_at (L : List (List Int)) (i : Nat) : rd_L1 L (i : Int) = L.getD i [] := by simp [rd_L1]
theorem headP_at : ∀ (l : List Int) (c : Nat), c < l.length → (∀ j : Nat, j < c → rd l (j : Int) = 0) → rd l (c : Int) ≠ 0 → headP l = rd l (c : Int)
  | [], c, h, _, _ => absurd h (by simp)
  | x :: l, 0, _, _, hn => by
    have e : rd (x :: l) ((0 : Nat) : Int) = x := by simp [rd]
    rw [e] at hn ⊢
    rw [headP_cons, if_neg hn]
  | x :: l, c + 1, h, hz, hn => by
    have e : ∀ j : Nat, rd (x :: l) ((j + 1 : Nat) : Int) = rd l (j : Int) := fun j => by simp [rd]
    have h0 : x = 0 := by have := hz 0 (by omega); simpa [rd] using this
    rw [headP_cons, if_pos h0, e]
    exact headP_at l c (by simpa using h) (fun j hj => by rw [← e]; exact hz (j + 1) (by omega)) (by rw [← e]; exact hn)
theorem rowP_at {p : Int} {l : List Int} {c : Nat} (hc : c < l.length) (hz : ∀ j : Nat, j < c → rd l (j : Int) = 0) (hn : rd l (c : Int) ≠ 0) : rowP p l = scaleP p (invP p (rd l (c : Int))) l := by
  rw [rowP, headP_at l c hc hz hn, scaleP]
/-- zeros ahead of column c -/
def zeroTo (c : Nat) (L : List (List Int)) : Prop := ∀ r ∈ L, ∀ j : Nat, j < c → rd r (j : Int) = 0
theorem zeroTo_next {p : Int} (hp : primeB p = true) {w c : Nat} (hc : c < w) {L : List (List Int)} (hL : okR p w L) (hz : zeroTo c L) {i : Nat} (hf : L.findIdx? (fun row => rd row (c : Int) != 0) = some i) :
    zeroTo (c + 1) ((L.eraseIdx i).map fun r => lessP p (rd r (c : Int)) (scaleP p (invP p (rd (L.getD i []) (c : Int))) (L.getD i [])) r) := by
  intro r hr j hj
  obtain ⟨q, hq, rfl⟩ := List.mem_map.1 hr
  have hq' := List.mem_of_mem_eraseIdx hq
  obtain ⟨hi, hne⟩ := find_lt hf
  have hx := hL _ (mem_getD hi)
  have hxr := ok_rd hx c hc
  have hne' : rd (L.getD i []) (c : Int) ≠ 0 := by simpa using hne
  have hql := (hL q hq').1
  rw [rd_less j (by omega) (by rw [(scale_ok (by have := prime_bd hp; omega) hx.1).1]; omega), rd_scale j (by omega)]
  by_cases e : j = c
  · subst e
    rw [(invP_spec hp hxr.1 hxr.2).2.2.2.1 hne', Int.mul_one, Int.sub_self, Int.zero_emod]
  · rw [hz q hq' j (by omega), hz _ (mem_getD hi) j (by omega)]
    simp
theorem zeroTo_none {c : Nat} {L : List (List Int)} (hz : zeroTo c L) (hf : L.findIdx? (fun row => rd row (c : Int) != 0) = none) : zeroTo (c + 1) L := by
  intro r hr j hj
  by_cases e : j = c
  · subst e
    have := List.findIdx?_eq_none_iff.1 hf r hr
    simpa using this
  · exact hz r hr j (by omega)
/-- the search -/
theorem search_ev {p : Int} {w : Nat} {rows out : List (List Int)} {heads : List Int} {c : Nat} {R : List (List Int) × List Int} (hc : c < w) (hw : w ≤ 1000) (hlen : rows.length < 1000000) (hr : ∀ r ∈ rows, r.length = w)
    (hnone : rows.findIdx? (fun row => rd row (c : Int) != 0) = none → Ev (fun k => spec_l4Reduce.l0 k p rows (w : Int) out heads ((c + 1 : Nat) : Int)) R)
    (hsome : ∀ i, rows.findIdx? (fun row => rd row (c : Int) != 0) = some i → Ev (fun k => (spec_l4Row.f k p (rows.getD i [])).bind fun t => spec_l4Reduce.l2 k p rows (w : Int) out heads (c : Int) (i : Int) t [] 0) R) :
    ∀ (d i : Nat), i + d = rows.length → (rows.take i).findIdx? (fun row => rd row (c : Int) != 0) = none → Ev (fun k => spec_l4Reduce.l1 k p rows (w : Int) out heads (c : Int) (-1) (i : Int)) R
  | 0, i, he, hf => by
    have hf' : rows.findIdx? (fun row => rd row (c : Int) != 0) = none := by rwa [List.take_of_length_le (by omega)] at hf
    refine Ev.step (f := fun k => spec_l4Reduce.j2 k p rows (w : Int) out heads (c : Int) (-1) (i : Int) false) (fun k => ?_) ?_
    · rw [spec_l4Reduce.l1, if_neg (by omega)]
    · refine Ev.step (f := fun k => spec_l4Reduce.l0 k p rows (w : Int) out heads ((c + 1 : Nat) : Int)) (fun k => ?_) (hnone hf')
      rw [spec_l4Reduce.j2, if_neg (by simp), if_pos (by omega), wsm (by omega) (by omega)]
      rfl
  | d + 1, i, he, hf => by
    have hi : i < rows.length := by omega
    have hrl : (rows.getD i []).length = w := hr _ (mem_getD hi)
    refine Ev.step (f := fun k => spec_l4Reduce.j2 k p rows (w : Int) out heads (c : Int) (-1) (i : Int) true) (fun k => ?_) ?_
    · rw [spec_l4Reduce.l1, if_pos (by omega)]; rfl
    · by_cases hz : rd (rows.getD i []) (c : Int) = 0
      · refine Ev.step (f := fun k => spec_l4Reduce.l1 k p rows (w : Int) out heads (c : Int) (-1) ((i + 1 : Nat) : Int)) (fun k => ?_) (search_ev hc hw hlen hr hnone hsome d (i + 1) (by omega) ?_)
        · rw [spec_l4Reduce.j2, if_pos rfl, if_pos (by omega), if_pos (by omega), if_pos (by omega), rdL_at, if_pos (by omega), if_pos hz, wsm (by omega) (by omega)]
          rfl
        · rw [List.take_add_one, List.findIdx?_append, hf, List.getElem?_eq_getElem hi]
          rw [List.getD_eq_getElem?_getD, List.getElem?_eq_getElem hi] at hz
          simp only [Option.getD_some] at hz
          simp [List.findIdx?_cons, hz]
      · have hfi : rows.findIdx? (fun row => rd row (c : Int) != 0) = some i := by
          rw [List.getD_eq_getElem?_getD, List.getElem?_eq_getElem hi] at hz
          simp only [Option.getD_some] at hz
          have hsplit : rows = rows.take i ++ rows[i] :: rows.drop (i + 1) := by rw [List.getElem_cons_drop, List.take_append_drop]
          rw [hsplit, List.findIdx?_append, hf]
          have hz' : (rd rows[i] (c : Int) != 0) = true := bne_iff_ne.mpr hz
          rw [List.findIdx?_cons, hz']
          simp only [if_true, Option.map_some, Option.none_or, List.length_take, Nat.zero_add]
          rw [Nat.min_eq_left (by omega)]
        have hs := hsome i hfi
        have hfin : ∀ q : Nat, Ev (fun k => spec_l4Reduce.j2 k p rows (w : Int) out heads (c : Int) (i : Int) (q : Int) false) R := fun q => by
          refine Ev.step (f := fun k => (spec_l4Row.f k p (rows.getD i [])).bind fun t => spec_l4Reduce.l2 k p rows (w : Int) out heads (c : Int) (i : Int) t [] 0) (fun k => ?_) hs
          rw [spec_l4Reduce.j2, if_neg (by simp), if_neg (by omega), if_pos (by omega), if_pos (by omega), rdL_at]
        refine Ev.step (f := fun k => spec_l4Reduce.l1 k p rows (w : Int) out heads (c : Int) (i : Int) ((i + 1 : Nat) : Int)) (fun k => ?_) ?_
        · rw [spec_l4Reduce.j2, if_pos rfl, if_pos (by omega), if_pos (by omega), if_pos (by omega), rdL_at, if_pos (by omega), if_neg hz, wsm (by omega) (by omega)]
          rfl
        · refine Ev.step (f := fun k => spec_l4Reduce.j2 k p rows (w : Int) out heads (c : Int) (i : Int) ((i + 1 : Nat) : Int) false) (fun k => ?_) (hfin (i + 1))
          rw [spec_l4Reduce.l1]
          split
          · rw [decide_eq_false (by omega)]
          · rfl
/-- the rows that are left are lessened -/
theorem rest_ev {p : Int} {w : Nat} (hp : 7 ≤ p ∧ p ≤ 31) {rows out : List (List Int)} {heads : List Int} {c at_ : Nat} {row : List Int} {R : List (List Int) × List Int} (hc : c < w) (hw : w ≤ 1000) (hlen : rows.length < 1000000) (hr : okR p w rows) (hrow : row.length = w ∧ ∀ x ∈ row, 0 ≤ x ∧ x < p) (hat : at_ < rows.length)
    (hend : Ev (fun k => spec_l4Reduce.l3 k p ((rows.eraseIdx at_).map fun r => lessP p (rd r (c : Int)) row r) (w : Int) out heads (c : Int) row 0) R) :
    ∀ (d i : Nat), i + d = rows.length → Ev (fun k => spec_l4Reduce.l2 k p rows (w : Int) out heads (c : Int) (at_ : Int) row (((rows.take i).eraseIdx at_).map fun r => lessP p (rd r (c : Int)) row r) (i : Int)) R
  | 0, i, he => by
    refine Ev.step (f := fun k => spec_l4Reduce.l3 k p ((rows.eraseIdx at_).map fun r => lessP p (rd r (c : Int)) row r) (w : Int) out heads (c : Int) row 0) (fun k => ?_) hend
    rw [spec_l4Reduce.l2, if_neg (by omega), List.take_of_length_le (by omega)]
  | d + 1, i, he => by
    have hi : i < rows.length := by omega
    have ih := rest_ev hp hc hw hlen hr hrow hat hend d (i + 1) (by omega)
    by_cases e : i = at_
    · subst e
      refine Ev.step (f := fun k => spec_l4Reduce.l2 k p rows (w : Int) out heads (c : Int) (i : Int) row (((rows.take (i + 1)).eraseIdx i).map fun r => lessP p (rd r (c : Int)) row r) ((i + 1 : Nat) : Int)) (fun k => ?_) ih
      rw [spec_l4Reduce.l2, if_pos (by omega), if_pos rfl, wsm (by omega) (by omega)]
      have e1 : (rows.take i).eraseIdx i = rows.take i := List.eraseIdx_of_length_le (by rw [List.length_take]; omega)
      have e2 : (rows.take (i + 1)).eraseIdx i = rows.take i := by
        rw [List.take_add_one, List.eraseIdx_append_of_length_le (by rw [List.length_take]; omega)]
        simp [Nat.min_eq_left (Nat.le_of_lt hi), List.getElem?_eq_getElem hi]
      rw [e1, e2]
      rfl
    · have hrow_i := hr _ (mem_getD hi)
      have ht := ok_rd hrow_i c hc
      refine Ev.step (f := fun k => (spec_l4Less.f k p (rows.getD i []) (rd (rows.getD i []) (c : Int)) row).bind fun t => if (((rows.take i).eraseIdx at_).map fun r => lessP p (rd r (c : Int)) row r).length < 5864062014805 then spec_l4Reduce.l2 k p rows (w : Int) out heads (c : Int) (at_ : Int) row ((((rows.take i).eraseIdx at_).map fun r => lessP p (rd r (c : Int)) row r) ++ [t]) ((i + 1 : Nat) : Int) else none) (fun k => ?_) ?_
      · rw [spec_l4Reduce.l2, if_pos (by omega), if_neg (by omega), if_pos (by omega), if_pos (by omega), rdL_at, if_pos (by omega), wsm (by omega) (by omega)]
        rfl
      · refine Ev.bind (l4Less_ev hp ht hrow hrow_i hw) (Ev.yes ?_ ?_)
        · rw [List.length_map]
          have h1 := List.length_eraseIdx_le (rows.take i) at_
          have h2 : (rows.take i).length ≤ rows.length := by rw [List.length_take]; omega
          omega
        · have e2 : ((rows.take (i + 1)).eraseIdx at_).map (fun r => lessP p (rd r (c : Int)) row r) = ((rows.take i).eraseIdx at_).map (fun r => lessP p (rd r (c : Int)) row r) ++ [lessP p (rd (rows.getD i []) (c : Int)) row (rows.getD i [])] := by
            have e3 : rows.take (i + 1) = rows.take i ++ [rows.getD i []] := by
              rw [List.take_add_one, List.getElem?_eq_getElem hi, List.getD_eq_getElem?_getD, List.getElem?_eq_getElem hi]; rfl
            by_cases hlt : at_ < i
            · rw [e3, List.eraseIdx_append_of_lt_length (by simp; omega), List.map_append]; rfl
            · rw [List.eraseIdx_of_length_le (by simp; omega), List.eraseIdx_of_length_le (by simp; omega), e3, List.map_append]; rfl
          rw [e2] at ih
          exact ih
/-- the rows that are done are lessened -/
theorem done_ev {p : Int} {w : Nat} (hp : 7 ≤ p ∧ p ≤ 31) {rest out : List (List Int)} {heads : List Int} {c : Nat} {row : List Int} {R : List (List Int) × List Int} (hc : c < w) (hw : w ≤ 1000) (hlen : out.length < 1000000) (hh : heads.length < 1000000) (hr : okR p w out) (hrow : row.length = w ∧ ∀ x ∈ row, 0 ≤ x ∧ x < p)
    (hend : Ev (fun k => spec_l4Reduce.l0 k p rest (w : Int) ((out.map fun r => lessP p (rd r (c : Int)) row r) ++ [row]) (heads ++ [(c : Int)]) ((c + 1 : Nat) : Int)) R) :
    ∀ (d i : Nat), i + d = out.length → Ev (fun k => spec_l4Reduce.l3 k p rest (w : Int) ((out.map fun r => lessP p (rd r (c : Int)) row r).take i ++ out.drop i) heads (c : Int) row (i : Int)) R
  | 0, i, he => by
    refine Ev.step (f := fun k => spec_l4Reduce.l0 k p rest (w : Int) ((out.map fun r => lessP p (rd r (c : Int)) row r) ++ [row]) (heads ++ [(c : Int)]) ((c + 1 : Nat) : Int)) (fun k => ?_) hend
    rw [List.drop_eq_nil_of_le (by omega), List.append_nil, List.take_of_length_le (by simp; omega), spec_l4Reduce.l3, if_neg (by simp; omega), if_pos (by simp; omega), if_pos (by omega), wsm (by omega) (by omega)]
    rfl
  | d + 1, i, he => by
    have hi : i < out.length := by omega
    have ih := done_ev hp hc hw hlen hh hr hrow hend d (i + 1) (by omega)
    have hrow_i := hr _ (mem_getD hi)
    have ht := ok_rd hrow_i c hc
    have hcur : ((out.map fun r => lessP p (rd r (c : Int)) row r).take i ++ out.drop i).getD i [] = out.getD i [] := by
      simp [List.getD_eq_getElem?_getD, List.getElem?_append_right, Nat.min_eq_left (Nat.le_of_lt hi), hi]
    have hcl : ((out.map fun r => lessP p (rd r (c : Int)) row r).take i ++ out.drop i).length = out.length := by simp; omega
    have hset : ((out.map fun r => lessP p (rd r (c : Int)) row r).take i ++ out.drop i).set i (lessP p (rd (out.getD i []) (c : Int)) row (out.getD i [])) = (out.map fun r => lessP p (rd r (c : Int)) row r).take (i + 1) ++ out.drop (i + 1) :=
      scan_set _ _ _ _ (by simp) hi (by simp [List.getD_eq_getElem?_getD, List.getElem?_eq_getElem hi])
    refine Ev.step (f := fun k => (spec_l4Less.f k p (out.getD i []) (rd (out.getD i []) (c : Int)) row).bind fun t => spec_l4Reduce.l3 k p rest (w : Int) (((out.map fun r => lessP p (rd r (c : Int)) row r).take i ++ out.drop i).set i t) heads (c : Int) row ((i + 1 : Nat) : Int)) (fun k => ?_) ?_
    · rw [spec_l4Reduce.l3, if_pos (by omega), if_pos (by omega), if_pos (by omega), rdL_at, hcur, if_pos (by omega), wsm (by omega) (by omega), Int.toNat_natCast]
      rfl
    · refine Ev.bind (l4Less_ev hp ht hrow hrow_i hw) ?_
      rw [hset]
      exact ih
theorem l4Reduce_l {p : Int} (hp : primeB p = true) {w : Nat} (hw : w ≤ 1000) : ∀ (d c : Nat) (L O : List (List Int)) (H : List Int), c + d = w → okR p w L → okR p w O → zeroTo c L → L.length + O.length < 1000000 → H.length = O.length →
    Ev (fun k => spec_l4Reduce.l0 k p L (w : Int) O H (c : Int)) (redP p d c L O, headsP p d c L H)
  | 0, c, L, O, H, hc, _, _, _, _, _ => by
    refine Ev.step (f := fun _ => some (O, H)) (fun k => ?_) (Ev.now _)
    rw [spec_l4Reduce.l0, if_neg (by omega)]
  | d + 1, c, L, O, H, hc, hL, hO, hz, hl, hH => by
    have hb := prime_bd hp
    refine Ev.step (f := fun k => spec_l4Reduce.l1 k p L (w : Int) O H (c : Int) (-1) ((0 : Nat) : Int)) (fun k => ?_) ?_
    · rw [spec_l4Reduce.l0, if_pos (by omega)]; rfl
    · refine search_ev (by omega) hw (by omega) (fun r hr => (hL r hr).1) (fun hf => ?_) (fun i hf => ?_) L.length 0 (by omega) rfl
      · have ih := l4Reduce_l hp hw d (c + 1) L O H (by omega) hL hO (zeroTo_none hz hf) hl hH
        rw [redP, headsP, hf]
        exact ih
      · obtain ⟨hi, hne⟩ := find_lt hf
        have hx := hL _ (mem_getD hi)
        have hne' : rd (L.getD i []) (c : Int) ≠ 0 := by simpa using hne
        have hs := scale_ok (p := p) (b := invP p (rd (L.getD i []) (c : Int))) (by omega) hx.1
        have hzn := zeroTo_next hp (by omega) hL hz hf
        have ih := l4Reduce_l hp hw d (c + 1) ((L.eraseIdx i).map fun r => lessP p (rd r (c : Int)) (scaleP p (invP p (rd (L.getD i []) (c : Int))) (L.getD i [])) r) ((O.map fun r => lessP p (rd r (c : Int)) (scaleP p (invP p (rd (L.getD i []) (c : Int))) (L.getD i [])) r) ++ [scaleP p (invP p (rd (L.getD i []) (c : Int))) (L.getD i [])]) (H ++ [(c : Int)]) (by omega)
          (okR_less _ (by omega) hs.1 (okR_erase i hL)) (okR_app (okR_less _ (by omega) hs.1 hO) (okR_cons hs (okR_nil p w))) hzn (by simp [List.length_eraseIdx, hi]; omega) (by simp [hH])
        rw [redP, headsP, hf]
        simp only
        refine Ev.bind (a := scaleP p (invP p (rd (L.getD i []) (c : Int))) (L.getD i [])) ?_ ?_
        · have h1 := l4Row_ev hp (L.getD i []) hx.2 (by omega)
          rwa [rowP_at (by omega) (hz _ (mem_getD hi)) hne'] at h1
        · have h2 := done_ev hb (c := c) (heads := H) (out := O) (rest := (L.eraseIdx i).map fun r => lessP p (rd r (c : Int)) (scaleP p (invP p (rd (L.getD i []) (c : Int))) (L.getD i [])) r) (by omega) hw (by omega) (by omega) hO hs ih O.length 0 (by omega)
          have h3 := rest_ev hb (c := c) (by omega) hw (by omega) hL hs hi (by simpa using h2) L.length 0 (by omega)
          simpa using h3
theorem l4Reduce_ev {p : Int} (hp : primeB p = true) {w : Nat} (hw : w ≤ 1000) (L : List (List Int)) (hL : okR p w L) (hl : L.length < 1000000) : Ev (fun k => spec_l4Reduce.f k p L (w : Int)) (redP p w 0 L [], headsP p w 0 L []) := by
  unfold spec_l4Reduce.f
  exact l4Reduce_l hp hw w 0 L [] [] (by omega) hL (okR_nil p w) (fun _ _ j hj => absurd hj (by omega)) (by simpa using hl) rfl

end Go.Proofs.Ytmenehnfgenlpaa.PA
namespace Go.Proofs.Ytmenehnfgenlpaa.PA
open Go.RowKit Go.Proofs.YtmenehnfgenlpaaW.PrintWords Go.Proofs.YtmenehnfgenlpaaW.PrintLast Go.Proofs.YtmenehnfgenlpaaW.PrintMore
set_option linter.unusedVariables false
set_option linter.unusedSimpArgs false

theorem l7Rank_ev {p : Int} (hp : primeB p = true) {L : List (List Int)} (hL : okR p 4 L) (hl : L.length < 1000000) : Ev (fun k => spec_l7Rank.f k p L) (rankP p 4 L : Int) := by
  unfold spec_l7Rank.f
  exact Ev.bind (l4Reduce_ev hp (w := 4) (by omega) L hL hl) (Ev.now _)

end Go.Proofs.Ytmenehnfgenlpaa.PA
namespace Go.Proofs.Ytmenehnfgenlpaa.PA
open Go.RowKit Go.Proofs.YtmenehnfgenlpaaW.PrintWords Go.Proofs.YtmenehnfgenlpaaW.PrintLast Go.Proofs.YtmenehnfgenlpaaW.PrintMore
set_option linter.unusedVariables false
set_option linter.unusedSimpArgs false

theorem l7Same_l (a b : List Int) (hab : a.length ≤ b.length) (hl : a.length ≤ 1000000000) : ∀ (d i : Nat), i + d = a.length → Ev (fun k => spec_l7Same.l0 k a b (i : Int)) (decide (a.drop i = (b.take a.length).drop i))
  | 0, i, h => by
    refine Ev.step (f := fun _ => some true) (fun k => ?_) ?_
    · rw [spec_l7Same.l0, if_neg (by omega)]
    · rw [List.drop_eq_nil_of_le (by omega), List.drop_eq_nil_of_le (by simp; omega)]; exact Ev.now _
  | d + 1, i, h => by
    have ih := l7Same_l a b hab hl d (i + 1) (by omega)
    have e : rd (b.take a.length) (i : Int) = rd b (i : Int) := by
      rw [rd_at _ i (by simp; omega), rd_at b i (by omega)]; simp
    rw [rd_drop a i (by omega), rd_drop (b.take a.length) i (by simp; omega), e]
    by_cases hz : rd a (i : Int) = rd b (i : Int)
    · refine Ev.step (f := fun k => spec_l7Same.l0 k a b ((i + 1 : Nat) : Int)) (fun k => ?_) ?_
      · rw [spec_l7Same.l0, if_pos (by omega), if_pos (by omega), if_pos (by omega), if_pos hz, wsm (by omega) (by omega)]; rfl
      · simpa [hz] using ih
    · refine Ev.step (f := fun _ => some false) (fun k => ?_) ?_
      · rw [spec_l7Same.l0, if_pos (by omega), if_pos (by omega), if_pos (by omega), if_neg hz]
      · rw [decide_eq_false (by simp [hz])]
        exact Ev.now false
theorem l7Same_ev (a b : List Int) (hab : a.length = b.length) (hl : a.length ≤ 1000000000) : Ev (fun k => spec_l7Same.f k a b) (decide (a = b)) := by
  unfold spec_l7Same.f
  have h := l7Same_l a b (by omega) hl a.length 0 (by omega)
  rw [hab, List.take_length] at h
  simpa using h

end Go.Proofs.Ytmenehnfgenlpaa.PA
namespace Go.Proofs.Ytmenehnfgenlpaa.PA
open Go.RowKit Go.Proofs.YtmenehnfgenlpaaW.PrintWords Go.Proofs.YtmenehnfgenlpaaW.PrintLast Go.Proofs.YtmenehnfgenlpaaW.PrintMore
set_option linter.unusedVariables false
set_option linter.unusedSimpArgs false

theorem low_eq {p : Int} (hp : primeB p = true) (x : Int) : lowB p x = (decide (0 ≤ x) && decide (x < p)) := by
  have hb := prime_bd hp
  rw [lowB, wsm (by omega) (by omega), show decide (x ≤ p - 1) = decide (x < p) from decide_eq_decide.2 (by omega)]
theorem two_of {M : List (List Int)} (h : M.length = 2) : M = [M.getD 0 [], M.getD 1 []] := by
  match M, h with
  | [x, y], _ => rfl
theorem sSpaceIn_ev (p : Int) (l : List Int) : Ev (fun k => spec_SpaceIn.f k p l) (lineB p l) := by
  unfold spec_SpaceIn.f
  refine Ev.bind (Ev.k (PrimeIn_eq p)) ?_
  cases hp : primeB p with
  | false =>
    refine Ev.no (by simp) ?_
    rw [show lineB p l = false from by simp [lineB, numsB, hp]]
    exact Ev.now _
  | true =>
    have hb := prime_bd hp
    refine Ev.yes rfl ?_
    by_cases hl : l.length = 8
    · refine Ev.yes hl ?_
      by_cases ha : l.all (lowB p) = true
      · refine Ev.yes ha ?_
        have hn : numsB p l 8 = true := numsB_mk hp hl (fun x hx => by
          have h1 := List.all_eq_true.1 ha x hx
          rw [low_eq hp] at h1
          simpa using h1)
        have hok := halves_ok hn
        refine Ev.bind (l4Reduce_ev hp (w := 4) (by omega) _ hok (by simp)) ?_
        by_cases h2 : (redP p 4 0 [l.take 4, l.drop 4] []).length = 2
        · refine Ev.yes h2 ?_
          have hro := redP_ok (p := p) (by omega) 4 0 _ [] hok (okR_nil p 4)
          have e := two_of h2
          have hx := hro ((redP p 4 0 [l.take 4, l.drop 4] []).getD 0 []) (mem_getD (by omega))
          have hy := hro ((redP p 4 0 [l.take 4, l.drop 4] []).getD 1 []) (mem_getD (by omega))
          refine Ev.yes ⟨Nat.lt_of_le_of_lt (Nat.le_of_eq hx.1) (by omega), Nat.lt_of_le_of_lt (Nat.le_of_eq hy.1) (by omega)⟩ ?_
          have e2 : spanP p 4 [l.take 4, l.drop 4] = (redP p 4 0 [l.take 4, l.drop 4] []).getD 0 [] ++ (redP p 4 0 [l.take 4, l.drop 4] []).getD 1 [] := by
            rw [spanP]
            conv => lhs; rw [e]
            simp
          rw [lineB, hn, Bool.true_and, e2]
          exact l7Same_ev _ _ (by rw [List.length_append, hx.1, hy.1, hl]) (by rw [List.length_append, hx.1, hy.1]; omega)
        · refine Ev.no h2 ?_
          rw [show lineB p l = false from by
            cases hh : lineB p l with
            | false => rfl
            | true => exact absurd (line_rank hh) h2]
          exact Ev.now _
      · refine Ev.no ha ?_
        rw [show lineB p l = false from by
          cases hh : lineB p l with
          | false => rfl
          | true =>
            refine absurd (List.all_eq_true.2 fun x hx => ?_) ha
            rw [low_eq hp]
            simpa using (numsB_prime (line_nums hh)).2.2 x hx]
        exact Ev.now _
    · refine Ev.no hl ?_
      rw [show lineB p l = false from by
        cases hh : lineB p l with
        | false => rfl
        | true => exact absurd (numsB_prime (line_nums hh)).2.1 hl]
      exact Ev.now _

end Go.Proofs.Ytmenehnfgenlpaa.PA
namespace Go.Proofs.Ytmenehnfgenlpaa.PA
open Go.RowKit Go.Proofs.YtmenehnfgenlpaaW.PrintWords Go.Proofs.YtmenehnfgenlpaaW.PrintLast Go.Proofs.YtmenehnfgenlpaaW.PrintMore
set_option linter.unusedVariables false
set_option linter.unusedSimpArgs false

theorem sSpaceCross_ev (p : Int) (l m : List Int) : Ev (fun k => spec_SpaceCross.f k p l m) (crossB p l m) := by
  unfold spec_SpaceCross.f crossB
  refine Ev.bind (sSpaceIn_ev p l) ?_
  cases hl : lineB p l with
  | false => exact Ev.no (by simp) (Ev.now _)
  | true =>
    refine Ev.yes rfl (Ev.bind (sSpaceIn_ev p m) ?_)
    cases hm : lineB p m with
    | false => exact Ev.no (by simp) (Ev.now _)
    | true =>
      have h1 := numsB_prime (line_nums hl)
      have h2 := numsB_prime (line_nums hm)
      refine Ev.yes rfl (Ev.yes (by omega) (Ev.yes (by omega) (Ev.bind (l7Rank_ev h1.1 (four_ok (line_nums hl) (line_nums hm)) (by simp)) ?_)))
      have e : ((rankP p 4 [l.take 4, l.drop 4, m.take 4, m.drop 4] : Int) == 3) = decide (rankP p 4 [l.take 4, l.drop 4, m.take 4, m.drop 4] = 3) := by
        rw [Bool.eq_iff_iff]; simp; omega
      rw [e]; exact Ev.now _

end Go.Proofs.Ytmenehnfgenlpaa.PA
namespace Go.Proofs.Ytmenehnfgenlpaa.PA
open Go.RowKit Go.Proofs.YtmenehnfgenlpaaW.PrintWords Go.Proofs.YtmenehnfgenlpaaW.PrintLast Go.Proofs.YtmenehnfgenlpaaW.PrintMore
set_option linter.unusedVariables false
set_option linter.unusedSimpArgs false

def linesT (p : Int) (n : Nat) : List (List Int) := (List.range n).map fun (k : Nat) => lineC p (k : Int)
theorem linesT_len (p : Int) (n : Nat) : (linesT p n).length = n := by simp [linesT]
theorem l8Lines_l {p : Int} (hp : p = 7 ∨ p = 13 ∨ p = 19 ∨ p = 31) : ∀ (d i : Nat), i + d = 27 → Ev (fun k => spec_l8Lines.l0 k p (rootsT p) (linesT p i) (i : Int)) (linesT p 27)
  | 0, i, e => by
    obtain rfl : i = 27 := by omega
    exact Ev.step (f := fun _ => some (linesT p 27)) (fun k => by rw [spec_l8Lines.l0, if_neg (by omega)]) (Ev.now _)
  | d + 1, i, e => by
    have ih := l8Lines_l hp d (i + 1) (by omega)
    have hn := linesT_len p i
    refine Ev.step (fun k => by rw [spec_l8Lines.l0, if_pos (by omega)]) ?_
    refine Ev.bind (sl8Line_ev hp (by omega) (by omega)) (Ev.yes (by omega) ?_)
    rw [wsm (by omega) (by omega), show linesT p i ++ [lineC p (i : Int)] = linesT p (i + 1) by simp [linesT, List.range_succ]]
    simpa using ih
theorem l8Lines_ev {p : Int} (hp : p = 7 ∨ p = 13 ∨ p = 19 ∨ p = 31) : Ev (fun k => spec_l8Lines.f k p (rootsT p)) (linesT p 27) := l8Lines_l hp 27 0 rfl
theorem linesT_at {p : Int} {i : Nat} (hi : i < 27) : rd_L1 (linesT p 27) (i : Int) = lineC p (i : Int) := by
  rw [rd_L1, linesT, List.getD_eq_getElem?_getD, List.getElem?_map, List.getElem?_range (by omega)]; rfl
def rowT (p : Int) (i n : Nat) : List Bool := (List.range n).map (cellC p i)
def tabS (p : Int) (n : Nat) : List (List Bool) := (List.range n).map (rowC p)
theorem tabS_len (p : Int) (n : Nat) : (tabS p n).length = n := by simp [tabS]
theorem rowT_len (p : Int) (i n : Nat) : (rowT p i n).length = n := by simp [rowT]
theorem l8Table_l1 {p : Int} (hp : p = 7 ∨ p = 13 ∨ p = 19 ∨ p = 31) {i : Nat} (hi : i < 27) (next : Ev (fun k => spec_l8Table.l0 k p (linesT p 27) (tabS p (i + 1)) ((i + 1 : Nat) : Int)) (tabS p 27)) : ∀ (d j : Nat), j + d = 27 → Ev (fun k => spec_l8Table.l1 k p (linesT p 27) (tabS p i) (i : Int) (rowT p i j) (j : Int)) (tabS p 27)
  | 0, j, e => by
    obtain rfl : j = 27 := by omega
    have hn := tabS_len p i
    refine Ev.step (fun k => by rw [spec_l8Table.l1, if_neg (show ¬ ((27 : Nat) : Int) < 27 by omega)]) ?_
    refine Ev.yes (by omega) ?_
    rw [wsm (by omega) (by omega), show tabS p i ++ [rowT p i 27] = tabS p (i + 1) by simp [tabS, List.range_succ, rowT, rowC]]
    simpa using next
  | d + 1, j, e => by
    have ih := l8Table_l1 hp hi next d (j + 1) (by omega)
    have hl := linesT_len p 27
    have hn := rowT_len p i j
    refine Ev.step (fun k => by rw [spec_l8Table.l1, if_pos (show (j : Int) < 27 by omega)]) ?_
    refine Ev.yes (by omega) (Ev.yes (by omega) (Ev.yes (by omega) (Ev.yes (by omega) ?_)))
    rw [linesT_at hi, linesT_at (show j < 27 by omega)]
    refine Ev.bind (sSpaceCross_ev _ _ _) (Ev.yes (by omega) ?_)
    rw [wsm (by omega) (by omega), show rowT p i j ++ [crossB p (lineC p (i : Int)) (lineC p (j : Int))] = rowT p i (j + 1) by simp [rowT, List.range_succ, cellC]]
    simpa using ih
theorem l8Table_l0 {p : Int} (hp : p = 7 ∨ p = 13 ∨ p = 19 ∨ p = 31) : ∀ (d i : Nat), i + d = 27 → Ev (fun k => spec_l8Table.l0 k p (linesT p 27) (tabS p i) (i : Int)) (tabS p 27)
  | 0, i, e => by
    obtain rfl : i = 27 := by omega
    exact Ev.step (f := fun _ => some (tabS p 27)) (fun k => by rw [spec_l8Table.l0, if_neg (by omega)]) (Ev.now _)
  | d + 1, i, e => by
    have ih := l8Table_l0 hp d (i + 1) (by omega)
    refine Ev.step (fun k => by rw [spec_l8Table.l0, if_pos (by omega)]) ?_
    exact l8Table_l1 hp (by omega) ih 27 0 rfl
theorem l8Table_ev {p : Int} (hp : p = 7 ∨ p = 13 ∨ p = 19 ∨ p = 31) : Ev (fun k => spec_l8Table.f k p (rootsT p)) (tabS p 27) := by
  unfold spec_l8Table.f
  exact Ev.bind (l8Lines_ev hp) (l8Table_l0 hp 27 0 rfl)
theorem tabS_at {p : Int} {i : Nat} (hi : i < 27) : rd_L4 (tabS p 27) (i : Int) = rowC p i := by
  rw [rd_L4, tabS, List.getD_eq_getElem?_getD, List.getElem?_map, List.getElem?_range (by omega)]; rfl
theorem rowC_at {p : Int} {i j : Nat} (hj : j < 27) : rdOf false (rowC p i) (j : Int) = cellC p i j := by
  rw [rdOf, rowC, List.getD_eq_getElem?_getD, List.getElem?_map, List.getElem?_range (by omega)]; rfl
theorem rowC_len (p : Int) (i : Nat) : (rowC p i).length = 27 := by simp [rowC]

end Go.Proofs.Ytmenehnfgenlpaa.PA
namespace Go.Proofs.Ytmenehnfgenlpaa.PA
open Go.RowKit Go.Proofs.YtmenehnfgenlpaaW.PrintWords Go.Proofs.YtmenehnfgenlpaaW.PrintLast Go.Proofs.YtmenehnfgenlpaaW.PrintMore
set_option linter.unusedVariables false
set_option linter.unusedSimpArgs false

def meetN (p : Int) (k n : Nat) : List Int := ((List.range n).filter (cellC p k)).map fun (j : Nat) => (j : Int)
theorem meetN_len (p : Int) (k n : Nat) : (meetN p k n).length ≤ n := by
  rw [meetN, List.length_map]
  have := List.length_filter_le (cellC p k) (List.range n)
  rwa [List.length_range] at this
theorem sMeet_l {p : Int} {m : Nat} : ∀ (d j : Nat), j + d = 27 → Ev (fun k => spec_CubeMeeting.l0 k (meetN p m j) (rowC p m) (j : Int)) (meetN p m 27, true)
  | 0, j, e => by
    obtain rfl : j = 27 := by omega
    exact Ev.step (f := fun _ => some (meetN p m 27, true)) (fun k => by rw [spec_CubeMeeting.l0, if_neg (by omega)]) (Ev.now _)
  | d + 1, j, e => by
    have ih := sMeet_l (p := p) (m := m) d (j + 1) (by omega)
    have hl := rowC_len p m
    have hn := meetN_len p m j
    refine Ev.step (fun k => by rw [spec_CubeMeeting.l0, if_pos (show (j : Int) < 27 by omega)]) ?_
    refine Ev.yes (by omega) (Ev.yes (by omega) ?_)
    rw [rowC_at (show j < 27 by omega)]
    cases hc : cellC p m j with
    | true =>
      refine Ev.yes rfl (Ev.yes (by omega) ?_)
      rw [wsm (by omega) (by omega), show meetN p m j ++ [(j : Int)] = meetN p m (j + 1) by simp [meetN, List.range_succ, List.filter_append, hc]]
      simpa using ih
    | false =>
      refine Ev.no (by simp) ?_
      rw [wsm (by omega) (by omega), show meetN p m j = meetN p m (j + 1) by simp [meetN, List.range_succ, List.filter_append, hc]]
      simpa using ih
theorem sCubeMeeting_ev (p k : Int) : Ev (fun n => spec_CubeMeeting.f n p k) (meetP p k) := by
  unfold spec_CubeMeeting.f meetP
  refine Ev.bind (sRoots_ev p) (Ev.bind (Ev.now _) ?_)
  rcases rootsT_cases p with h | h
  · rw [h, if_neg (by simp)]
    exact Ev.no (by simp) (Ev.step (f := fun _ => some ([], false)) (fun k => by rw [spec_CubeMeeting.j0, if_pos rfl]) (Ev.now _))
  · have hl : (rootsT p).length = 3 := by rcases h with rfl | rfl | rfl | rfl <;> rfl
    have hne : rootsT p ≠ [] := by intro e; rw [e] at hl; simp at hl
    refine Ev.yes (by simp [hne]) ?_
    by_cases h0 : 0 ≤ k
    · refine Ev.bind (a := decide (k ≤ 26)) (Ev.k (by unfold spec_l6In.f; rw [if_pos (by omega)])) ?_
      by_cases h1 : k < 27
      · rw [if_pos ⟨hne, h0, h1⟩, decide_eq_true (show k ≤ 26 by omega)]
        obtain ⟨m, rfl⟩ := Int.eq_ofNat_of_zero_le h0
        have hm : m < 27 := by omega
        have ht := tabS_len p 27
        refine Ev.step (fun n => by rw [spec_CubeMeeting.j0, if_neg (by simp)]) ?_
        refine Ev.bind (l8Table_ev h) (Ev.yes (by omega) (Ev.yes (by omega) ?_))
        rw [tabS_at hm]
        exact sMeet_l 27 0 rfl
      · rw [if_neg (fun e => h1 e.2.2), decide_eq_false (show ¬ k ≤ 26 by omega)]
        exact Ev.step (f := fun _ => some ([], false)) (fun k => by rw [spec_CubeMeeting.j0, if_pos (by simp)]) (Ev.now _)
    · refine Ev.bind (a := false) (Ev.k (by unfold spec_l6In.f; rw [if_neg (by omega)])) ?_
      rw [if_neg (fun e => h0 e.2.1)]
      exact Ev.step (f := fun _ => some ([], false)) (fun k => by rw [spec_CubeMeeting.j0, if_pos (by simp)]) (Ev.now _)

end Go.Proofs.Ytmenehnfgenlpaa.PA
namespace Go.Proofs.Ytmenehnfgenlpaa.PA
open Go.RowKit Go.Proofs.YtmenehnfgenlpaaW.PrintWords Go.Proofs.YtmenehnfgenlpaaW.PrintLast Go.Proofs.YtmenehnfgenlpaaW.PrintMore
set_option linter.unusedVariables false
set_option linter.unusedSimpArgs false

/-- the bytes that a code is read as -/
def bytesOk (b : List Int) : Prop := b.length ≤ 2000 ∧ ∀ x ∈ b, 0 ≤ x ∧ x ≤ 255
theorem wf_u8 {x : Int} (h : (Lit.int .u8 x).wf = true) : 0 ≤ x ∧ x ≤ 255 := by
  simp [Lit.wf, IntKind.min, IntKind.max, IntKind.signed, IntKind.bits] at h
  omega
theorem l6Open_eq (l : List Int) (h : ∀ x ∈ l, (Lit.int .u8 x).wf = true) : ∃ b, spec_l6Open.f l = some (b, 0) ∧ bytesOk b := by
  unfold spec_l6Open.f
  by_cases hl : (l.length : Int) > 2000
  · rw [if_pos hl, if_pos (by omega)]
    exact ⟨_, rfl, by simp; omega, fun x hx => wf_u8 (h x (List.mem_of_mem_take hx))⟩
  · rw [if_neg hl]
    exact ⟨_, rfl, by omega, fun x hx => wf_u8 (h x hx)⟩

end Go.Proofs.Ytmenehnfgenlpaa.PA
namespace Go.Proofs.Ytmenehnfgenlpaa.PA
open Go.RowKit Go.Proofs.YtmenehnfgenlpaaW.PrintWords Go.Proofs.YtmenehnfgenlpaaW.PrintLast Go.Proofs.YtmenehnfgenlpaaW.PrintMore
set_option linter.unusedVariables false
set_option linter.unusedSimpArgs false

theorem bits_xor_nonneg (x y : Int) (hx : 0 ≤ x) (hy : 0 ≤ y) (hx2 : x < 2 ^ 40) (hy2 : y < 2 ^ 40) : 0 ≤ Go.bits .xor .i64 x y := by
  obtain ⟨a, rfl⟩ := Int.eq_ofNat_of_zero_le hx
  obtain ⟨b, rfl⟩ := Int.eq_ofNat_of_zero_le hy
  have ha : a < 2 ^ 40 := by omega
  have hb : b < 2 ^ 40 := by omega
  have hc := Nat.xor_lt_two_pow ha hb
  have e : (BitVec.ofInt 64 (a : Int) ^^^ BitVec.ofInt 64 (b : Int)).toNat = a ^^^ b := by
    rw [BitVec.toNat_xor, BitVec.ofInt_natCast, BitVec.ofInt_natCast, BitVec.toNat_ofNat, BitVec.toNat_ofNat, Nat.mod_eq_of_lt (by omega), Nat.mod_eq_of_lt (by omega)]
  show 0 ≤ IntKind.wrap .i64 (((BitVec.ofInt 64 (a : Int) ^^^ BitVec.ofInt 64 (b : Int)).toNat : Nat) : Int)
  rw [e]
  generalize a ^^^ b = c at hc
  have hm : ((c : Int)) % (2 ^ 64 : Int) = c := by omega
  simp only [IntKind.wrap, IntKind.bits, IntKind.signed, hm]
  rw [if_neg (by simp; omega)]
  omega
theorem rd_byte {b : List Int} (h : bytesOk b) (i : Int) : 0 ≤ rd b i ∧ rd b i ≤ 255 := by
  unfold rd
  rw [List.getD_eq_getElem?_getD]
  cases hi : b[i.toNat]? with
  | none => simp
  | some x => exact h.2 x (List.mem_of_getElem? hi)
theorem pick_ev (b : List Int) (h : bytesOk b) (p n : Int) (hp : 0 ≤ p) (hp2 : p ≤ 1000000) : ∃ v, Ev (fun k => spec_l6Rd_pick.f k b p n) (v, p + 1) ∧ 0 ≤ v ∧ (1 ≤ n → v < n) := by
  have w1 : wrap64 (p + 1) = p + 1 := wsm (by omega) (by omega)
  have w2 : wrap64 (p + 1 - 1) = p := by rw [wsm (by omega) (by omega)]; omega
  unfold spec_l6Rd_pick.f
  by_cases hn : n < 1
  · refine ⟨0, Ev.yes hn ?_, by omega, by omega⟩
    refine Ev.step (f := fun _ => some (0, p + 1)) (fun k => ?_) (Ev.now _)
    rw [spec_l6Rd_pick.j0, if_pos rfl, w1]
  · by_cases hb : b.length = 0
    · refine ⟨0, Ev.no hn ?_, by omega, by omega⟩
      refine Ev.step (f := fun _ => some (0, p + 1)) (fun k => ?_) (Ev.now _)
      rw [spec_l6Rd_pick.j0, if_pos (by simp [hb]), w1]
    · have hbf : ¬ ((b.length : Int) == 0) = true := by simp; intro e; simp [e] at hb
      have hb0 : ¬ (b.length : Int) = 0 := by omega
      by_cases hlt : p < (b.length : Int)
      · have hr := rd_byte h p
        refine ⟨Int.tmod (rd b p) n, Ev.no hn ?_, Int.tmod_nonneg _ hr.1, fun _ => Int.tmod_lt_of_pos _ (by omega)⟩
        refine Ev.step (f := fun _ => some (Int.tmod (rd b p) n, p + 1)) (fun k => ?_) (Ev.now _)
        rw [spec_l6Rd_pick.j0, if_neg hbf, w1, w2, if_pos hlt, if_pos hp, if_neg (by omega), wsm (by omega) (by omega)]
      · have hlp : 0 < (b.length : Int) := by omega
        have hi1 := Int.tmod_nonneg (b.length : Int) hp
        have hi2 := Int.tmod_lt_of_pos p hlp
        have w3 : wrap64 (wrap64 (p * 7) + 3) = p * 7 + 3 := by rw [wsm (i := p * 7) (by omega) (by omega), wsm (by omega) (by omega)]
        have hj1 := Int.tmod_nonneg (b.length : Int) (a := p * 7 + 3) (by omega)
        have hj2 := Int.tmod_lt_of_pos (p * 7 + 3) hlp
        have r1 := rd_byte h (Int.tmod p (b.length : Int))
        have r2 := rd_byte h (Int.tmod (p * 7 + 3) (b.length : Int))
        have hq0 : 0 ≤ Int.tdiv p (b.length : Int) := Int.tdiv_nonneg hp (by omega)
        have hq1 : Int.tdiv p (b.length : Int) ≤ p := by rw [Int.tdiv_eq_ediv_of_nonneg hp]; exact Int.ediv_le_self _ hp
        have e := @spec_l6Rd_pick.j0.eq_2
        generalize hx : wrap64 (wrap64 (wrap64 (wrap64 (wrap64 (rd b (Int.tmod p (b.length : Int))) * 131) + wrap64 (wrap64 (rd b (Int.tmod (p * 7 + 3) (b.length : Int))) * 1117)) + wrap64 (p * 29)) + wrap64 (wrap64 (Int.tdiv p (b.length : Int)) * 53)) = X
        have hX : 0 ≤ X ∧ X < 2 ^ 40 := by
          rw [← hx]
          generalize rd b (Int.tmod p (b.length : Int)) = y1 at r1
          generalize rd b (Int.tmod (p * 7 + 3) (b.length : Int)) = y2 at r2
          generalize Int.tdiv p (b.length : Int) = y3 at hq0 hq1
          rw [wsm (i := y1) (by omega) (by omega), wsm (i := y2) (by omega) (by omega), wsm (i := y3) (by omega) (by omega), wsm (i := y1 * 131) (by omega) (by omega), wsm (i := y2 * 1117) (by omega) (by omega), wsm (i := y3 * 53) (by omega) (by omega), wsm (i := p * 29) (by omega) (by omega), wsm (i := y1 * 131 + y2 * 1117) (by omega) (by omega), wsm (i := y1 * 131 + y2 * 1117 + p * 29) (by omega) (by omega), wsm (by omega) (by omega)]
          omega
        have hd : 0 ≤ Int.tdiv X 64 ∧ Int.tdiv X 64 ≤ X := by rw [Int.tdiv_eq_ediv_of_nonneg hX.1]; omega
        have hxor := bits_xor_nonneg X (wrap64 (Int.tdiv X 64)) hX.1 (by rw [wsm (by omega) (by omega)]; omega) hX.2 (by rw [wsm (by omega) (by omega)]; omega)
        refine ⟨Int.tmod (Go.bits .xor .i64 X (wrap64 (Int.tdiv X 64))) n, Ev.no hn ?_, Int.tmod_nonneg _ hxor, fun _ => Int.tmod_lt_of_pos _ (by omega)⟩
        refine Ev.step (f := fun _ => some (Int.tmod (Go.bits .xor .i64 X (wrap64 (Int.tdiv X 64))) n, p + 1)) (fun k => ?_) (Ev.now _)
        rw [spec_l6Rd_pick.j0, if_neg hbf, w1, w2, if_neg hlt, if_neg hb0, if_pos hi1, if_pos hi2, w3, if_pos hj1, if_pos hj2, if_neg (by omega), hx]

end Go.Proofs.Ytmenehnfgenlpaa.PA
namespace Go.Proofs.Ytmenehnfgenlpaa.PA
open Go.RowKit Go.Proofs.YtmenehnfgenlpaaW.PrintWords Go.Proofs.YtmenehnfgenlpaaW.PrintLast Go.Proofs.YtmenehnfgenlpaaW.PrintMore
set_option linter.unusedVariables false
set_option linter.unusedSimpArgs false

theorem l91Index_ev (b : List Int) (hb : bytesOk b) (s : Int) (h0 : 0 ≤ s) (h1 : s ≤ 900000) : ∃ v s', Ev (fun k => spec_l91Index.f k b s) (v, s') ∧ -1 ≤ v ∧ v ≤ 27 ∧ s ≤ s' ∧ s' ≤ s + 2 := by
  obtain ⟨u, hu, u0, u1⟩ := pick_ev b hb s 20 (by omega) (by omega)
  unfold spec_l91Index.f
  by_cases hz : u = 0
  · obtain ⟨x, hx, x0, x1⟩ := pick_ev b hb (s + 1) 2 (by omega) (by omega)
    have hx1 := x1 (by omega)
    refine ⟨rd [-1, 27] x, s + 1 + 1, Ev.bind hu (Ev.yes hz (Ev.bind (a := [-1, 27]) (Ev.now _) (Ev.bind hx (Ev.yes (by show 0 ≤ x; omega) (Ev.yes (by show x < 2; omega) (Ev.now _)))))), ?_, ?_, by omega, by omega⟩
    · rcases (show x = 0 ∨ x = 1 by omega) with rfl | rfl <;> decide
    · rcases (show x = 0 ∨ x = 1 by omega) with rfl | rfl <;> decide
  · obtain ⟨x, hx, x0, x1⟩ := pick_ev b hb (s + 1) 27 (by omega) (by omega)
    have hx1 := x1 (by omega)
    exact ⟨x, s + 1 + 1, Ev.bind hu (Ev.no hz (Ev.bind hx (Ev.now _))), by omega, by omega, by omega, by omega⟩

end Go.Proofs.Ytmenehnfgenlpaa.PA
namespace Go.Proofs.Ytmenehnfgenlpaa.PA
open Go.RowKit Go.Proofs.YtmenehnfgenlpaaW.PrintWords Go.Proofs.YtmenehnfgenlpaaW.PrintLast Go.Proofs.YtmenehnfgenlpaaW.PrintMore
set_option linter.unusedVariables false
set_option linter.unusedSimpArgs false

theorem l92Cube_ev (l : List Int) (h : ∀ x ∈ l, (Lit.int .u8 x).wf = true) : ∃ p n, Ev (fun k => spec_l92Cube.f k l) (p, n) ∧ -1 ≤ n ∧ n ≤ 27 := by
  obtain ⟨b, hb, hok⟩ := l6Open_eq l h
  obtain ⟨u, hu, u0, u1⟩ := pick_ev b hok 0 8 (by omega) (by omega)
  have hu1 := u1 (by omega)
  obtain ⟨n, s', hn, n0, n1, _, _⟩ := l91Index_ev b hok (0 + 1) (by omega) (by omega)
  refine ⟨rd [7, 13, 19, 31, 7, 13, 11, 9] u, n, ?_, n0, n1⟩
  unfold spec_l92Cube.f
  exact Ev.bind (Ev.k hb) (Ev.bind (a := [7, 13, 19, 31, 7, 13, 11, 9]) (Ev.now _) (Ev.bind hu (Ev.yes (by show 0 ≤ u; omega) (Ev.yes (by show u < 8; omega) (Ev.bind hn (Ev.now _))))))

end Go.Proofs.Ytmenehnfgenlpaa.PA
namespace Go.Proofs.Ytmenehnfgenlpaa.PA
open Go.RowKit Go.Proofs.YtmenehnfgenlpaaW.PrintWords Go.Proofs.YtmenehnfgenlpaaW.PrintLast Go.Proofs.YtmenehnfgenlpaaW.PrintMore
set_option linter.unusedVariables false
set_option linter.unusedSimpArgs false

theorem sameInts_l (a b : List Int) (hab : a.length = b.length) (hl : a.length ≤ 1000000000) : ∀ (d : Nat) (i : Nat), i + d = a.length → Ev (fun k => laws_sameInts.l0 k a b (i : Int)) (decide (a.drop i = b.drop i))
  | 0, i, h => by
    refine Ev.step (f := fun _ => some true) (fun k => ?_) ?_
    · rw [laws_sameInts.l0, if_neg (by omega)]
    · rw [List.drop_eq_nil_of_le (by omega), List.drop_eq_nil_of_le (by omega)]; exact Ev.now _
  | d + 1, i, h => by
    have ih := sameInts_l a b hab hl d (i + 1) (by omega)
    rw [rd_drop a i (by omega), rd_drop b i (by omega)]
    by_cases hr : rd a (i : Int) = rd b (i : Int)
    · refine Ev.step (f := fun k => laws_sameInts.l0 k a b ((i + 1 : Nat) : Int)) (fun k => ?_) ?_
      · rw [laws_sameInts.l0, if_pos (by omega), if_pos (by omega), if_pos (by omega), if_pos hr, wsm (by omega) (by omega)]
        simp
      · simpa [hr] using ih
    · refine Ev.step (f := fun _ => some false) (fun k => ?_) ?_
      · rw [laws_sameInts.l0, if_pos (by omega), if_pos (by omega), if_pos (by omega), if_neg hr]
      · simpa [hr] using Ev.now false
theorem sameInts_ev (a b : List Int) (hl : a.length ≤ 1000000000) : Ev (fun k => laws_sameInts.f k a b) (decide (a = b)) := by
  unfold laws_sameInts.f
  refine Ev.ite (fun h => ?_) (fun h => ?_)
  · simpa using sameInts_l a b (by omega) hl a.length 0 (by omega)
  · rw [decide_eq_false (fun e => h (by rw [e]))]; exact Ev.now _

end Go.Proofs.Ytmenehnfgenlpaa.PA
namespace Go.Proofs.Ytmenehnfgenlpaa.PA
open Go.RowKit Go.Proofs.YtmenehnfgenlpaaW.PrintWords Go.Proofs.YtmenehnfgenlpaaW.PrintLast Go.Proofs.YtmenehnfgenlpaaW.PrintMore
set_option linter.unusedVariables false
set_option linter.unusedSimpArgs false

theorem Equal_l (a b : List Int) (hab : a.length = b.length) (hl : a.length ≤ 1000000000) : ∀ (d i : Nat), i + d = a.length → Ev (fun k => slices_Equal_int_int.l0 k a b (a.length : Int) (i : Int)) (decide (a.drop i = b.drop i))
  | 0, i, h => by
    refine Ev.step (f := fun _ => some true) (fun k => ?_) ?_
    · rw [slices_Equal_int_int.l0, if_neg (by omega)]
    · rw [List.drop_eq_nil_of_le (by omega), List.drop_eq_nil_of_le (by omega)]; exact Ev.now _
  | d + 1, i, h => by
    have ih := Equal_l a b hab hl d (i + 1) (by omega)
    rw [rd_drop a i (by omega), rd_drop b i (by omega)]
    by_cases hz : rd a (i : Int) = rd b (i : Int)
    · refine Ev.step (f := fun k => slices_Equal_int_int.l0 k a b (a.length : Int) ((i + 1 : Nat) : Int)) (fun k => ?_) ?_
      · rw [slices_Equal_int_int.l0, if_pos (by omega), if_pos (by omega), if_pos (by omega), if_pos (by omega), if_pos hz, wsm (by omega) (by omega)]; rfl
      · simpa [hz] using ih
    · refine Ev.step (f := fun _ => some false) (fun k => ?_) ?_
      · rw [slices_Equal_int_int.l0, if_pos (by omega), if_pos (by omega), if_pos (by omega), if_pos (by omega), if_neg hz]
      · rw [decide_eq_false (by simp [hz])]
        exact Ev.now false
theorem Equal_ev (a b : List Int) (hl : a.length ≤ 1000000000) : Ev (fun k => slices_Equal_int_int.f k a b) (decide (a = b)) := by
  unfold slices_Equal_int_int.f
  by_cases h : a.length = b.length
  · refine Ev.yes (by omega) ?_
    simpa using Equal_l a b h hl a.length 0 (by omega)
  · refine Ev.no (by omega) ?_
    rw [decide_eq_false (fun e => h (by rw [e]))]
    exact Ev.now _

end Go.Proofs.Ytmenehnfgenlpaa.PA
namespace Go.Proofs.Ytmenehnfgenlpaa.PA
open Go.RowKit Go.Proofs.YtmenehnfgenlpaaW.PrintWords Go.Proofs.YtmenehnfgenlpaaW.PrintLast Go.Proofs.YtmenehnfgenlpaaW.PrintMore
set_option linter.unusedVariables false
set_option linter.unusedSimpArgs false

theorem isSpaceLine_ev (p : Int) (l : List Int) : Ev (fun k => impl_isSpaceLine.f k p l) (lineB p l) := by
  unfold impl_isSpaceLine.f lineB
  refine Ev.bind (Ev.k (areNumbers_eq p l 8)) ?_
  cases hn : numsB p l 8 with
  | false => exact Ev.no (by simp) (Ev.now _)
  | true =>
    obtain ⟨hp, hl, _⟩ := numsB_prime hn
    have hb := prime_bd hp
    refine Ev.yes rfl ?_
    refine Ev.bind (Ev.k (rowsOf_eq l (by omega))) ?_
    refine Ev.bind (spanOf_ev hp (by omega) _ (halves_ok hn) (by simp)) (Ev.bind (Equal_ev _ _ ?_) ?_)
    · rw [spanP_len (by omega) (halves_ok hn)]
      have h2 := redP_len p 4 0 [l.take 4, l.drop 4] []
      have h3 : rankP p 4 [l.take 4, l.drop 4] ≤ 2 := by simpa [rankP] using h2
      omega
    · rw [Bool.true_and]; exact Ev.now _

end Go.Proofs.Ytmenehnfgenlpaa.PA
namespace Go.Proofs.Ytmenehnfgenlpaa.PA
open Go.RowKit Go.Proofs.YtmenehnfgenlpaaW.PrintWords Go.Proofs.YtmenehnfgenlpaaW.PrintLast Go.Proofs.YtmenehnfgenlpaaW.PrintMore
set_option linter.unusedVariables false
set_option linter.unusedSimpArgs false

theorem iSpaceCross_ev (p : Int) (l m : List Int) : Ev (fun k => impl_SpaceCross.f k p l m) (crossB p l m) := by
  unfold impl_SpaceCross.f crossB
  refine Ev.bind (isSpaceLine_ev p l) ?_
  cases hl : lineB p l with
  | false => exact Ev.no (by simp) (Ev.now _)
  | true =>
    refine Ev.yes rfl (Ev.bind (isSpaceLine_ev p m) ?_)
    cases hm : lineB p m with
    | false => exact Ev.no (by simp) (Ev.now _)
    | true => exact Ev.yes rfl (Ev.bind (crosses_ev (line_nums hl) (line_nums hm)) (Ev.now _))

end Go.Proofs.Ytmenehnfgenlpaa.PA
namespace Go.Proofs.Ytmenehnfgenlpaa.PA
open Go.RowKit Go.Proofs.YtmenehnfgenlpaaW.PrintWords Go.Proofs.YtmenehnfgenlpaaW.PrintLast Go.Proofs.YtmenehnfgenlpaaW.PrintMore
set_option linter.unusedVariables false
set_option linter.unusedSimpArgs false

theorem meet_ten_t : ∀ p ∈ ([7, 13, 19, 31] : List Int), ∀ k ∈ List.range 27, (meetC p k).length = 10 := by decide +kernel
/-- the numbers ascend -/
def ascB : List Int → Bool
  | a :: b :: l => decide (a < b) && ascB (b :: l)
  | _ => true
theorem asc_get : ∀ (l : List Int), ascB l = true → ∀ i (h : i + 1 < l.length), l[i] < l[i + 1]
  | a :: b :: l, h, 0, _ => by
    rw [ascB, Bool.and_eq_true] at h
    simpa using of_decide_eq_true h.1
  | a :: b :: l, h, i + 1, hi => by
    rw [ascB, Bool.and_eq_true] at h
    exact asc_get (b :: l) h.2 i (by simp only [List.length_cons] at hi ⊢; omega)
theorem meet_asc_t : ∀ p ∈ ([7, 13, 19, 31] : List Int), ∀ k ∈ List.range 27, ascB (meetC p k) = true := by decide +kernel
theorem meet_l {p : Int} (hp : p = 7 ∨ p = 13 ∨ p = 19 ∨ p = 31) (hr : rootsT p ≠ []) {m : Nat} (hm : m < 27) : ∀ (d i : Nat), i + d = (meetC p m).length → Ev (fun k => laws_FnCubeMeeting.l0 k p (meetC p m) (lineC p (m : Int)) true (i : Int)) true
  | 0, i, e => by
    have h10 := meet_ten_t p (by simp; omega) m (by simp; omega)
    refine Ev.step (f := fun _ => some true) (fun k => ?_) (Ev.now _)
    rw [laws_FnCubeMeeting.l0, if_neg (show ¬ (i : Int) < ((meetC p m).length : Int) by omega), if_pos rfl, h10]
    rfl
  | d + 1, i, e => by
    have h10 := meet_ten_t p (by simp; omega) m (by simp; omega)
    have ih := meet_l hp hr hm d (i + 1) (by omega)
    have hlt : i < (meetC p m).length := by omega
    have hat := rd_at (meetC p m) i hlt
    obtain ⟨j, hj, hjm⟩ : ∃ j : Nat, rd (meetC p m) (i : Int) = (j : Int) ∧ j < 27 ∧ cellC p m j = true := by
      obtain ⟨x, hx⟩ : ∃ x, (meetC p m)[i] = x := ⟨_, rfl⟩
      have h : x ∈ meetC p m := hx ▸ List.getElem_mem hlt
      rw [meetC, List.mem_map] at h
      obtain ⟨j, h, e⟩ := h
      rw [List.mem_filter, List.mem_range] at h
      exact ⟨j, by rw [hat, hx]; exact e.symm, h.1, h.2⟩
    refine Ev.step (fun k => by rw [laws_FnCubeMeeting.l0, if_pos (show (i : Int) < ((meetC p m).length : Int) by omega)]) ?_
    have hL := iCubeLine_ev p (rd (meetC p m) (i : Int))
    rw [hj, clP, if_pos ⟨hr, by omega, by omega⟩] at hL
    rw [hj]
    refine Ev.yes (by omega) (Ev.bind hL (Ev.yes rfl ?_))
    have hX := iSpaceCross_ev p (lineC p (m : Int)) (lineC p (j : Int))
    rw [show crossB p (lineC p (m : Int)) (lineC p (j : Int)) = true from hjm.2] at hX
    refine Ev.bind hX (Ev.yes rfl ?_)
    by_cases h0 : (i : Int) > 0
    · refine Ev.yes h0 ?_
      obtain ⟨q, rfl⟩ : ∃ q, i = q + 1 := ⟨i - 1, by omega⟩
      rw [show wrap64 (((q + 1 : Nat) : Int) - 1) = (q : Int) by rw [wsm (by omega) (by omega)]; omega]
      refine Ev.yes (by omega) (Ev.yes (by omega) (Ev.no ?_ ?_))
      · have ha := asc_get _ (meet_asc_t p (by simp; omega) m (by simp; omega)) q hlt
        rw [← hj, hat, rd_at (meetC p m) q (by omega)]
        omega
      · rw [wsm (by omega) (by omega)]
        simpa using ih
    · refine Ev.no h0 ?_
      rw [wsm (by omega) (by omega)]
      simpa using ih
theorem FnCubeMeeting_ev (l : List Int) (h : ∀ x ∈ l, (Lit.int .u8 x).wf = true) : Ev (fun k => laws_FnCubeMeeting.f k l) true := by
  unfold laws_FnCubeMeeting.f
  refine Ev.ite (fun _ => Ev.now _) (fun hl => ?_)
  obtain ⟨p, n, hd, _, _⟩ := l92Cube_ev l h
  refine Ev.bind (a := (p, n)) (by unfold spec_DrawCubeMeeting.f; exact Ev.bind hd (Ev.now _)) (Ev.bind (iCubeMeeting_ev p n) (Ev.bind (sCubeMeeting_ev p n) (Ev.no (by simp) ?_)))
  have hml := meetP_len p n
  refine Ev.bind (sameInts_ev (meetP p n).1 (meetP p n).1 (by omega)) ?_
  rw [decide_eq_true rfl]
  refine Ev.yes rfl ?_
  by_cases hc : rootsT p ≠ [] ∧ 0 ≤ n ∧ n < 27
  · rcases rootsT_cases p with hp | hp
    · exact absurd hp hc.1
    · obtain ⟨m, rfl⟩ := Int.eq_ofNat_of_zero_le hc.2.1
      rw [meetP, if_pos hc, Int.toNat_natCast]
      have hL := iCubeLine_ev p (m : Int)
      rw [clP, if_pos hc] at hL
      refine Ev.step (fun k => by rw [laws_FnCubeMeeting.j0, if_neg (by simp)]) (Ev.bind hL ?_)
      exact meet_l hp hc.1 (by omega) (meetC p m).length 0 (by omega)
  · rw [meetP, if_neg hc]
    exact Ev.step (f := fun k => (laws_sameInts.f k [] []).bind fun t => some t) (fun k => by rw [laws_FnCubeMeeting.j0, if_pos (by rfl), if_pos (by rfl)]) (Ev.bind (sameInts_ev [] [] (by simp)) (Ev.now _))

end Go.Proofs.Ytmenehnfgenlpaa.PA

namespace Go.Proofs.Ytmenehnfgenlpaa.Pure
open Go.RowKit Go.Proofs.Ytmenehnfgenlpaa.PA Go.Proofs.YtmenehnfgenlpaaW.PrintWords Go.Proofs.YtmenehnfgenlpaaW.PrintLast
theorem FnCubeMeeting : laws_FnCubeMeeting.Pure := by
  intro l
  intros
  first | exact (FnCubeMeeting_ev l).rounds | exact (FnCubeMeeting_ev l (by assumption)).rounds
end Go.Proofs.Ytmenehnfgenlpaa.Pure
