/- For every code: the line of cubes of the drawn prime and index is the reference's; no other index gives it, it is a line of space, and the form of cubes has the value 0 at all of its places, or neither gives a line. No conditions. -/
import Derived.Test.YtmenehnfgenlpaaWMore
import Derived.Test.YtmenehnfgenlpaaPAx3
import Derived.Test.YtmenehnfgenlpaaPAx6
import Derived.Test.YtmenehnfgenlpaaPAx4
import Derived.Test.YtmenehnfgenlpaaPAx5
import Derived.Test.YtmenehnfgenlpaaPAx9
import Derived.Test.YtmenehnfgenlpaaPAx1
import Derived.Test.YtmenehnfgenlpaaPAx0
import Derived.Test.YtmenehnfgenlpaaPAx2
import Derived.Test.YtmenehnfgenlpaaPAx11
import Derived.Test.YtmenehnfgenlpaaPAx10
import Derived.Test.YtmenehnfgenlpaaPAx12
namespace Go.Proofs.Ytmenehnfgenlpaa.PA
open Go.RowKit Go.Proofs.YtmenehnfgenlpaaW.PrintWords Go.Proofs.YtmenehnfgenlpaaW.PrintLast Go.Proofs.YtmenehnfgenlpaaW.PrintMore
set_option linter.unusedVariables false
set_option linter.unusedSimpArgs false

theorem wsm {i : Int} (h0 : -1000000000000000000 ≤ i) (h : i ≤ 1000000000000000000) : wrap64 i = i := by unfold wrap64; omega
theorem Ev.none_ {α : Type} {g : Nat → Option α} {r r' : α} (h : Ev g r) (h' : Ev g r') : r = r' := by
  obtain ⟨a, ha⟩ := h
  obtain ⟨b, hb⟩ := h'
  have h1 := ha (max a b) (Nat.le_max_left _ _)
  have h2 := hb (max a b) (Nat.le_max_right _ _)
  exact Option.some.inj (h1.symm.trans h2)
theorem Ev.k {α : Type} {x : Option α} {r : α} (h : x = some r) : Ev (fun _ => x) r := ⟨0, fun _ _ => h⟩
theorem Ev.ite {α : Type} {c : Prop} [Decidable c] {g f : Nat → Option α} {r : α} (h1 : c → Ev g r) (h2 : ¬ c → Ev f r) : Ev (fun k => if c then g k else f k) r := by
  by_cases h : c
  · exact (h1 h).congr (fun k => if_pos h)
  · exact (h2 h).congr (fun k => if_neg h)
theorem Ev.yes {α : Type} {c : Prop} [Decidable c] {g f : Nat → Option α} {r : α} (h : c) (h1 : Ev g r) : Ev (fun k => if c then g k else f k) r := h1.congr (fun k => if_pos h)
theorem Ev.no {α : Type} {c : Prop} [Decidable c] {g f : Nat → Option α} {r : α} (h : ¬ c) (h1 : Ev f r) : Ev (fun k => if c then g k else f k) r := h1.congr (fun k => if_neg h)
theorem rd_at (l : List Int) (j : Nat) (h : j < l.length) : rd l (j : Int) = l[j] := by simp [rd, List.getD_eq_getElem?_getD, h]
theorem rd_drop (l : List Int) (j : Nat) (h : j < l.length) : l.drop j = rd l (j : Int) :: l.drop (j + 1) := by rw [rd_at l j h, List.drop_eq_getElem_cons h]

end Go.Proofs.Ytmenehnfgenlpaa.PA
namespace Go.Proofs.Ytmenehnfgenlpaa.PA
open Go.RowKit Go.Proofs.YtmenehnfgenlpaaW.PrintWords Go.Proofs.YtmenehnfgenlpaaW.PrintLast Go.Proofs.YtmenehnfgenlpaaW.PrintMore
set_option linter.unusedVariables false
set_option linter.unusedSimpArgs false

/-- the numbers whose cube is -1, if there are three -/
def rootsT (p : Int) : List Int := if p = 7 then [3, 5, 6] else if p = 13 then [4, 10, 12] else if p = 19 then [8, 12, 18] else if p = 31 then [6, 26, 30] else []
theorem rootsT_not {p : Int} (h : primeB p = false) : rootsT p = [] := by
  have : ¬ (p = 7 ∨ p = 11 ∨ p = 13 ∨ p = 17 ∨ p = 19 ∨ p = 23 ∨ p = 29 ∨ p = 31) := of_decide_eq_false h
  unfold rootsT
  rw [if_neg (by omega), if_neg (by omega), if_neg (by omega), if_neg (by omega)]
theorem rootsT_cases (p : Int) : rootsT p = [] ∨ (p = 7 ∨ p = 13 ∨ p = 19 ∨ p = 31) := by
  unfold rootsT
  by_cases h1 : p = 7
  · exact .inr (.inl h1)
  by_cases h2 : p = 13
  · exact .inr (.inr (.inl h2))
  by_cases h3 : p = 19
  · exact .inr (.inr (.inr (.inl h3)))
  by_cases h4 : p = 31
  · exact .inr (.inr (.inr (.inr h4)))
  · rw [if_neg h1, if_neg h2, if_neg h3, if_neg h4]; exact .inl rfl

end Go.Proofs.Ytmenehnfgenlpaa.PA
namespace Go.Proofs.Ytmenehnfgenlpaa.PA
open Go.RowKit Go.Proofs.YtmenehnfgenlpaaW.PrintWords Go.Proofs.YtmenehnfgenlpaaW.PrintLast Go.Proofs.YtmenehnfgenlpaaW.PrintMore
set_option linter.unusedVariables false
set_option linter.unusedSimpArgs false

theorem PrimeIn_eq (p : Int) : spec_PrimeIn.f p = some (primeB p) := by
  unfold spec_PrimeIn.f primeB
  repeat' split
  all_goals first | (subst_vars; rfl) | (congr 1; symm; rw [decide_eq_true_iff]; omega) | (congr 1; symm; rw [decide_eq_false_iff_not]; omega)
theorem primeB_cases {p : Int} (h : primeB p = true) : p = 7 ∨ p = 11 ∨ p = 13 ∨ p = 17 ∨ p = 19 ∨ p = 23 ∨ p = 29 ∨ p = 31 := of_decide_eq_true h
theorem isPrime_ev (p : Int) : Ev (fun k => impl_isPrime.f k p) (primeB p) := Ev.of (impl_isPrime.mono p) (isPrime_f p)
/-- n numbers modulo a prime -/
def numsB (p : Int) (l : List Int) (n : Nat) : Bool := primeB p && decide (l.length = n) && l.all fun x => decide (0 ≤ x) && decide (x < p)
theorem areNumbers_eq (p : Int) (l : List Int) (n : Nat) : impl_areNumbers.f p l (n : Int) = some (numsB p l n) := by
  unfold impl_areNumbers.f numsB
  congr 3
  rw [Bool.eq_iff_iff, decide_eq_true_iff, decide_eq_true_iff]
  omega
theorem numsB_prime {p : Int} {l : List Int} {n : Nat} (h : numsB p l n = true) : primeB p = true ∧ l.length = n ∧ ∀ x ∈ l, 0 ≤ x ∧ x < p := by
  unfold numsB at h
  rw [Bool.and_eq_true, Bool.and_eq_true] at h
  refine ⟨h.1.1, of_decide_eq_true h.1.2, fun x hx => ?_⟩
  have := List.all_eq_true.1 h.2 x hx
  rw [Bool.and_eq_true] at this
  exact ⟨of_decide_eq_true this.1, of_decide_eq_true this.2⟩
theorem numsB_mk {p : Int} {l : List Int} {n : Nat} (h1 : primeB p = true) (h2 : l.length = n) (h3 : ∀ x ∈ l, 0 ≤ x ∧ x < p) : numsB p l n = true := by
  unfold numsB
  rw [h1, decide_eq_true h2, Bool.true_and, Bool.true_and, List.all_eq_true]
  intro x hx
  rw [decide_eq_true (h3 x hx).1, decide_eq_true (h3 x hx).2]; rfl
theorem prime_bd {p : Int} (h : primeB p = true) : 7 ≤ p ∧ p ≤ 31 := by have := primeB_cases h; omega
theorem rd_range {p : Int} {l : List Int} {n : Nat} (h : numsB p l n = true) (i : Int) (h0 : 0 ≤ i) (h1 : i < n) : 0 ≤ rd l i ∧ rd l i < p := by
  obtain ⟨_, hl, hr⟩ := numsB_prime h
  obtain ⟨j, rfl⟩ := Int.eq_ofNat_of_zero_le h0
  rw [rd_at l j (by omega)]
  exact hr _ (List.getElem_mem _)

end Go.Proofs.Ytmenehnfgenlpaa.PA
namespace Go.Proofs.Ytmenehnfgenlpaa.PA
open Go.RowKit Go.Proofs.YtmenehnfgenlpaaW.PrintWords Go.Proofs.YtmenehnfgenlpaaW.PrintLast Go.Proofs.YtmenehnfgenlpaaW.PrintMore
set_option linter.unusedVariables false
set_option linter.unusedSimpArgs false

/-- the inverse modulo a prime; 0 of 0 -/
def invP (p x : Int) : Int := (spec_l4Turned.f 40 p x).getD 0
theorem invP_table : ∀ p ∈ ([7, 11, 13, 17, 19, 23, 29, 31] : List Int), ∀ x ∈ List.range 31, (x : Int) < p → spec_l4Turned.f 40 p (x : Int) = some (invP p (x : Int)) ∧ 0 ≤ invP p (x : Int) ∧ invP p (x : Int) < p ∧ ((x : Int) ≠ 0 → ((x : Int) * invP p (x : Int)) % p = 1) ∧ ((x : Int) = 0 → invP p (x : Int) = 0) := by decide +kernel
theorem invP_spec {p : Int} (hp : primeB p = true) {x : Int} (h0 : 0 ≤ x) (h1 : x < p) : spec_l4Turned.f 40 p x = some (invP p x) ∧ 0 ≤ invP p x ∧ invP p x < p ∧ (x ≠ 0 → (x * invP p x) % p = 1) ∧ (x = 0 → invP p x = 0) := by
  obtain ⟨y, rfl⟩ := Int.eq_ofNat_of_zero_le h0
  have hb := prime_bd hp
  refine invP_table p ?_ y (List.mem_range.2 (by omega)) h1
  have := primeB_cases hp
  simpa using this
theorem turned_ev {p : Int} (hp : primeB p = true) {x : Int} (h0 : 0 ≤ x) (h1 : x < p) : Ev (fun k => spec_l4Turned.f k p x) (invP p x) := Ev.of (spec_l4Turned.mono p x) (invP_spec hp h0 h1).1
theorem invP_one {p : Int} (hp : primeB p = true) : invP p 1 = 1 := by
  have hb := prime_bd hp
  obtain ⟨_, h2, h3, h4, _⟩ := invP_spec hp (x := 1) (by omega) (by omega)
  have := h4 (by omega)
  rw [Int.one_mul, Int.emod_eq_of_lt h2 h3] at this
  exact this
theorem invP_ne {p : Int} (hp : primeB p = true) {x : Int} (h0 : 0 ≤ x) (h1 : x < p) (hx : x ≠ 0) : invP p x ≠ 0 := by
  intro e
  have := (invP_spec hp h0 h1).2.2.2.1 hx
  rw [e] at this
  simp at this

end Go.Proofs.Ytmenehnfgenlpaa.PA
namespace Go.Proofs.Ytmenehnfgenlpaa.PA
open Go.RowKit Go.Proofs.YtmenehnfgenlpaaW.PrintWords Go.Proofs.YtmenehnfgenlpaaW.PrintLast Go.Proofs.YtmenehnfgenlpaaW.PrintMore
set_option linter.unusedVariables false
set_option linter.unusedSimpArgs false

/-- a row less t times another one -/
def lessP (p t : Int) (h r : List Int) : List Int := List.zipWith (fun x y => (x - t * y) % p) r h
def scaleP (p b : Int) (r : List Int) : List Int := r.map fun x => x * b % p
/-- reduced rows: L the rows that are left, O those that are done -/
def redP (p : Int) : Nat → Nat → List (List Int) → List (List Int) → List (List Int)
  | 0, _, _, O => O
  | d + 1, c, L, O =>
    match L.findIdx? (fun row => rd row (c : Int) != 0) with
    | none => redP p d (c + 1) L O
    | some i => redP p d (c + 1) ((L.eraseIdx i).map fun r => lessP p (rd r (c : Int)) (scaleP p (invP p (rd (L.getD i []) (c : Int))) (L.getD i [])) r) ((O.map fun r => lessP p (rd r (c : Int)) (scaleP p (invP p (rd (L.getD i []) (c : Int))) (L.getD i [])) r) ++ [scaleP p (invP p (rd (L.getD i []) (c : Int))) (L.getD i [])])
/-- their columns -/
def headsP (p : Int) : Nat → Nat → List (List Int) → List Int → List Int
  | 0, _, _, H => H
  | d + 1, c, L, H =>
    match L.findIdx? (fun row => rd row (c : Int) != 0) with
    | none => headsP p d (c + 1) L H
    | some i => headsP p d (c + 1) ((L.eraseIdx i).map fun r => lessP p (rd r (c : Int)) (scaleP p (invP p (rd (L.getD i []) (c : Int))) (L.getD i [])) r) (H ++ [(c : Int)])
/-- rows of one length with numbers from 0 to p - 1 -/
def okR (p : Int) (w : Nat) (L : List (List Int)) : Prop := ∀ r ∈ L, r.length = w ∧ ∀ x ∈ r, 0 ≤ x ∧ x < p
theorem okR_nil (p : Int) (w : Nat) : okR p w [] := fun _ h => absurd h (by simp)
theorem okR_cons {p : Int} {w : Nat} {r : List Int} {L : List (List Int)} (h1 : r.length = w ∧ ∀ x ∈ r, 0 ≤ x ∧ x < p) (h2 : okR p w L) : okR p w (r :: L) := fun x hx => by
  rcases List.mem_cons.1 hx with rfl | hx
  · exact h1
  · exact h2 x hx
theorem okR_app {p : Int} {w : Nat} {L M : List (List Int)} (h1 : okR p w L) (h2 : okR p w M) : okR p w (L ++ M) := fun x hx => by
  rcases List.mem_append.1 hx with hx | hx
  · exact h1 x hx
  · exact h2 x hx
theorem less_ok {p t : Int} {w : Nat} {h r : List Int} (hp : 0 < p) (hh : h.length = w) (hr : r.length = w) : (lessP p t h r).length = w ∧ ∀ x ∈ lessP p t h r, 0 ≤ x ∧ x < p := by
  refine ⟨by simp [lessP, hh, hr], fun x hx => ?_⟩
  rw [lessP, List.mem_iff_getElem] at hx
  obtain ⟨i, hi, rfl⟩ := hx
  rw [List.getElem_zipWith]
  exact ⟨Int.emod_nonneg _ (by omega), Int.emod_lt_of_pos _ hp⟩
theorem scale_ok {p b : Int} {w : Nat} {r : List Int} (hp : 0 < p) (hr : r.length = w) : (scaleP p b r).length = w ∧ ∀ x ∈ scaleP p b r, 0 ≤ x ∧ x < p := by
  refine ⟨by simp [scaleP, hr], fun x hx => ?_⟩
  obtain ⟨y, _, rfl⟩ := List.mem_map.1 hx
  exact ⟨Int.emod_nonneg _ (by omega), Int.emod_lt_of_pos _ hp⟩
theorem mem_getD {L : List (List Int)} {i : Nat} (h : i < L.length) : L.getD i [] ∈ L := by
  rw [List.getD_eq_getElem?_getD, List.getElem?_eq_getElem h]; exact List.getElem_mem h
theorem okR_less {p : Int} {w : Nat} {L : List (List Int)} {h : List Int} (t : List Int → Int) (hp : 0 < p) (hh : h.length = w) (hL : okR p w L) : okR p w (L.map fun r => lessP p (t r) h r) := fun x hx => by
  obtain ⟨r, hr, rfl⟩ := List.mem_map.1 hx
  exact less_ok hp hh (hL r hr).1
theorem okR_erase {p : Int} {w : Nat} {L : List (List Int)} (i : Nat) (hL : okR p w L) : okR p w (L.eraseIdx i) := fun r hr => hL r (List.mem_of_mem_eraseIdx hr)
theorem find_lt {L : List (List Int)} {P : List Int → Bool} {i : Nat} (h : L.findIdx? P = some i) : i < L.length ∧ P (L.getD i []) = true := by
  rw [List.findIdx?_eq_some_iff_getElem] at h
  obtain ⟨hi, hp, _⟩ := h
  exact ⟨hi, by rw [List.getD_eq_getElem?_getD, List.getElem?_eq_getElem hi]; exact hp⟩
theorem ok_rd {p : Int} {w : Nat} {r : List Int} (h : r.length = w ∧ ∀ x ∈ r, 0 ≤ x ∧ x < p) (j : Nat) (hj : j < w) : 0 ≤ rd r (j : Int) ∧ rd r (j : Int) < p := by
  rw [rd_at r j (by omega)]; exact h.2 _ (List.getElem_mem _)
theorem rd_less {p t : Int} {h r : List Int} (j : Nat) (h1 : j < r.length) (h2 : j < h.length) : rd (lessP p t h r) (j : Int) = (rd r (j : Int) - t * rd h (j : Int)) % p := by
  rw [rd_at _ j (by simp [lessP]; omega), rd_at _ j h1, rd_at _ j h2]; simp [lessP]
theorem rd_scale {p b : Int} {r : List Int} (j : Nat) (h1 : j < r.length) : rd (scaleP p b r) (j : Int) = rd r (j : Int) * b % p := by
  rw [rd_at _ j (by simp [scaleP]; omega), rd_at _ j h1]; simp [scaleP]
theorem ext_rd {a b : List Int} {w : Nat} (ha : a.length = w) (hb : b.length = w) (h : ∀ j : Nat, j < w → rd a (j : Int) = rd b (j : Int)) : a = b := by
  refine List.ext_getElem (by omega) fun j h1 h2 => ?_
  have := h j (by omega)
  rwa [rd_at a j h1, rd_at b j h2] at this

end Go.Proofs.Ytmenehnfgenlpaa.PA
namespace Go.Proofs.Ytmenehnfgenlpaa.PA
open Go.RowKit Go.Proofs.YtmenehnfgenlpaaW.PrintWords Go.Proofs.YtmenehnfgenlpaaW.PrintLast Go.Proofs.YtmenehnfgenlpaaW.PrintMore
set_option linter.unusedVariables false
set_option linter.unusedSimpArgs false

theorem redP_len (p : Int) : ∀ (d c : Nat) (L O : List (List Int)), (redP p d c L O).length ≤ L.length + O.length
  | 0, _, L, O => by rw [redP]; omega
  | d + 1, c, L, O => by
    rw [redP]
    split
    · exact redP_len p d (c + 1) L O
    · next i hf =>
      have hi := (find_lt hf).1
      refine Nat.le_trans (redP_len p d (c + 1) _ _) ?_
      simp [List.length_eraseIdx, hi]
      omega
theorem redP_ok {p : Int} (hp : 0 < p) {w : Nat} : ∀ (d c : Nat) (L O : List (List Int)), okR p w L → okR p w O → okR p w (redP p d c L O)
  | 0, _, L, O, _, hO => by rw [redP]; exact hO
  | d + 1, c, L, O, hL, hO => by
    rw [redP]
    split
    · exact redP_ok hp d (c + 1) L O hL hO
    · next i hf =>
      have hi := (find_lt hf).1
      have hs := scale_ok (p := p) (b := invP p (rd (L.getD i []) (c : Int))) hp (hL _ (mem_getD hi)).1
      exact redP_ok hp d (c + 1) _ _ (okR_less _ hp hs.1 (okR_erase i hL)) (okR_app (okR_less _ hp hs.1 hO) (okR_cons hs (okR_nil p w)))
/-- the reduced rows, one after the other -/
def spanP (p : Int) (w : Nat) (L : List (List Int)) : List Int := (redP p w 0 L []).flatten
def rankP (p : Int) (w : Nat) (L : List (List Int)) : Nat := (redP p w 0 L []).length
theorem flat_len {w : Nat} : ∀ (M : List (List Int)), (∀ r ∈ M, r.length = w) → M.flatten.length = M.length * w
  | [], _ => by simp
  | r :: M, h => by
    rw [List.flatten_cons, List.length_append, h r (by simp), flat_len M (fun x hx => h x (by simp [hx])), List.length_cons, Nat.add_mul, Nat.one_mul, Nat.add_comm]
theorem spanP_len {p : Int} (hp : 0 < p) {w : Nat} {L : List (List Int)} (hL : okR p w L) : (spanP p w L).length = rankP p w L * w := flat_len _ (fun r hr => (redP_ok hp w 0 L [] hL (okR_nil p w) r hr).1)
/-- a list of eight numbers is a line of space -/
def lineB (p : Int) (l : List Int) : Bool := numsB p l 8 && decide (spanP p 4 [l.take 4, l.drop 4] = l)
theorem halves_ok {p : Int} {l : List Int} (h : numsB p l 8 = true) : okR p 4 [l.take 4, l.drop 4] := by
  obtain ⟨_, hl, hx⟩ := numsB_prime h
  refine okR_cons ⟨by simp; omega, fun x hx' => hx x (List.mem_of_mem_take hx')⟩ (okR_cons ⟨by simp; omega, fun x hx' => hx x (List.mem_of_mem_drop hx')⟩ (okR_nil p 4))
theorem line_nums {p : Int} {l : List Int} (h : lineB p l = true) : numsB p l 8 = true := by
  rw [lineB, Bool.and_eq_true] at h; exact h.1
theorem line_rank {p : Int} {l : List Int} (h : lineB p l = true) : rankP p 4 [l.take 4, l.drop 4] = 2 := by
  have hn := line_nums h
  have hb := prime_bd (numsB_prime hn).1
  rw [lineB, Bool.and_eq_true] at h
  have h2 := of_decide_eq_true h.2
  have h3 := spanP_len (w := 4) (by omega) (halves_ok hn)
  rw [h2, (numsB_prime hn).2.1] at h3
  omega

end Go.Proofs.Ytmenehnfgenlpaa.PA
namespace Go.Proofs.Ytmenehnfgenlpaa.PA
open Go.RowKit Go.Proofs.YtmenehnfgenlpaaW.PrintWords Go.Proofs.YtmenehnfgenlpaaW.PrintLast Go.Proofs.YtmenehnfgenlpaaW.PrintMore
set_option linter.unusedVariables false
set_option linter.unusedSimpArgs false

/-- the rows of a line of cubes -/
def cubeRows (p : Int) (k : Nat) : List (List Int) :=
  if k / 9 = 0 then [[(rootsT p).getD (k / 3 % 3) 0, 1, 0, 0], [0, 0, (rootsT p).getD (k % 3) 0, 1]]
  else if k / 9 = 1 then [[(rootsT p).getD (k / 3 % 3) 0, 0, 1, 0], [0, (rootsT p).getD (k % 3) 0, 0, 1]]
  else [[(rootsT p).getD (k / 3 % 3) 0, 0, 0, 1], [0, (rootsT p).getD (k % 3) 0, 1, 0]]
/-- a line of cubes -/
def lineC (p k : Int) : List Int := spanP p 4 (cubeRows p k.toNat)
theorem lineC_table : ∀ p ∈ ([7, 13, 19, 31] : List Int), ∀ k ∈ List.range 27, (lineC p (k : Int)).length = 8 := by decide +kernel
theorem lineC_len {p k : Int} (hp : p = 7 ∨ p = 13 ∨ p = 19 ∨ p = 31) (h0 : 0 ≤ k) (h1 : k < 27) : (lineC p k).length = 8 := by
  have h := lineC_table p (by simp; omega) k.toNat (by simp; omega)
  rwa [show ((k.toNat : Nat) : Int) = k by omega] at h
/-- what CubeLine returns -/
def clP (p k : Int) : List Int × Bool := if rootsT p ≠ [] ∧ 0 ≤ k ∧ k < 27 then (lineC p k, true) else ([], false)
theorem clP_len (p k : Int) : (clP p k).1.length ≤ 8 := by
  unfold clP
  split
  · next h =>
    rcases rootsT_cases p with h2 | h2
    · exact absurd h2 h.1
    · exact Nat.le_of_eq (lineC_len h2 h.2.1 h.2.2)
  · simp

end Go.Proofs.Ytmenehnfgenlpaa.PA
namespace Go.Proofs.Ytmenehnfgenlpaa.PA
open Go.RowKit Go.Proofs.YtmenehnfgenlpaaW.PrintWords Go.Proofs.YtmenehnfgenlpaaW.PrintLast Go.Proofs.YtmenehnfgenlpaaW.PrintMore
set_option linter.unusedVariables false
set_option linter.unusedSimpArgs false

theorem iRoots_table : ∀ p ∈ ([7, 11, 13, 17, 19, 23, 29, 31] : List Int), impl_cubeRoots.f 60 p = some (rootsT p) := by decide +kernel
theorem iRoots_ev (p : Int) : Ev (fun k => impl_cubeRoots.f k p) (rootsT p) := by
  cases hp : primeB p with
  | true => exact Ev.of (impl_cubeRoots.mono p) (iRoots_table p (by have := primeB_cases hp; simp; omega))
  | false =>
    unfold impl_cubeRoots.f
    refine Ev.bind (isPrime_ev p) ?_
    rw [hp, rootsT_not hp]
    exact Ev.no (by simp) (Ev.now _)

end Go.Proofs.Ytmenehnfgenlpaa.PA
namespace Go.Proofs.Ytmenehnfgenlpaa.PA
open Go.RowKit Go.Proofs.YtmenehnfgenlpaaW.PrintWords Go.Proofs.YtmenehnfgenlpaaW.PrintLast Go.Proofs.YtmenehnfgenlpaaW.PrintMore
set_option linter.unusedVariables false
set_option linter.unusedSimpArgs false

theorem icubeLine_table : ∀ p ∈ ([7, 13, 19, 31] : List Int), ∀ k ∈ List.range 27, impl_cubeLine.f 60 p (rootsT p) (k : Int) = some (lineC p (k : Int)) := by decide +kernel
theorem icubeLine_ev {p k : Int} (hp : p = 7 ∨ p = 13 ∨ p = 19 ∨ p = 31) (h0 : 0 ≤ k) (h1 : k < 27) : Ev (fun n => impl_cubeLine.f n p (rootsT p) k) (lineC p k) := by
  have h := icubeLine_table p (by simp; omega) k.toNat (by simp; omega)
  rw [show ((k.toNat : Nat) : Int) = k by omega] at h
  exact Ev.of (impl_cubeLine.mono _ _ _) h

end Go.Proofs.Ytmenehnfgenlpaa.PA
namespace Go.Proofs.Ytmenehnfgenlpaa.PA
open Go.RowKit Go.Proofs.YtmenehnfgenlpaaW.PrintWords Go.Proofs.YtmenehnfgenlpaaW.PrintLast Go.Proofs.YtmenehnfgenlpaaW.PrintMore
set_option linter.unusedVariables false
set_option linter.unusedSimpArgs false

theorem iCubeLine_ev (p k : Int) : Ev (fun n => impl_CubeLine.f n p k) (clP p k) := by
  unfold impl_CubeLine.f clP
  refine Ev.bind (iRoots_ev p) ?_
  rcases rootsT_cases p with h | h
  · rw [h, if_neg (by simp)]; exact Ev.no (by simp) (Ev.now _)
  · have hl : (rootsT p).length = 3 := by rcases h with rfl | rfl | rfl | rfl <;> rfl
    have hne : rootsT p ≠ [] := by intro e; rw [e] at hl; simp at hl
    refine Ev.yes (by omega) ?_
    by_cases h0 : 0 ≤ k
    · refine Ev.bind (a := decide (k < 27)) (Ev.k (by unfold impl_isLine.f; rw [if_pos (by omega)])) ?_
      by_cases h1 : k < 27
      · rw [if_pos ⟨hne, h0, h1⟩, decide_eq_true h1]
        exact Ev.yes rfl (Ev.bind (icubeLine_ev h h0 h1) (Ev.now _))
      · rw [if_neg (fun e => h1 e.2.2), decide_eq_false h1]
        exact Ev.no (by simp) (Ev.now _)
    · refine Ev.bind (a := false) (Ev.k (by unfold impl_isLine.f; rw [if_neg (by omega)])) ?_
      rw [if_neg (fun e => h0 e.2.1)]
      exact Ev.no (by simp) (Ev.now _)

end Go.Proofs.Ytmenehnfgenlpaa.PA
namespace Go.Proofs.Ytmenehnfgenlpaa.PA
open Go.RowKit Go.Proofs.YtmenehnfgenlpaaW.PrintWords Go.Proofs.YtmenehnfgenlpaaW.PrintLast Go.Proofs.YtmenehnfgenlpaaW.PrintMore
set_option linter.unusedVariables false
set_option linter.unusedSimpArgs false

theorem sRoots_table : ∀ p ∈ ([7, 11, 13, 17, 19, 23, 29, 31] : List Int), spec_CubeRoots.f 60 p = some (rootsT p, decide (rootsT p ≠ [])) := by decide +kernel
theorem sRoots_ev (p : Int) : Ev (fun k => spec_CubeRoots.f k p) (rootsT p, decide (rootsT p ≠ [])) := by
  cases hp : primeB p with
  | true => exact Ev.of (spec_CubeRoots.mono p) (sRoots_table p (by have := primeB_cases hp; simp; omega))
  | false =>
    unfold spec_CubeRoots.f
    refine Ev.bind (Ev.k (PrimeIn_eq p)) ?_
    rw [hp, rootsT_not hp]
    exact Ev.no (by simp) (Ev.now _)

end Go.Proofs.Ytmenehnfgenlpaa.PA
namespace Go.Proofs.Ytmenehnfgenlpaa.PA
open Go.RowKit Go.Proofs.YtmenehnfgenlpaaW.PrintWords Go.Proofs.YtmenehnfgenlpaaW.PrintLast Go.Proofs.YtmenehnfgenlpaaW.PrintMore
set_option linter.unusedVariables false
set_option linter.unusedSimpArgs false

theorem sl8Line_table : ∀ p ∈ ([7, 13, 19, 31] : List Int), ∀ k ∈ List.range 27, spec_l8Line.f 60 p (rootsT p) (k : Int) = some (lineC p (k : Int)) := by decide +kernel
theorem sl8Line_ev {p k : Int} (hp : p = 7 ∨ p = 13 ∨ p = 19 ∨ p = 31) (h0 : 0 ≤ k) (h1 : k < 27) : Ev (fun n => spec_l8Line.f n p (rootsT p) k) (lineC p k) := by
  have h := sl8Line_table p (by simp; omega) k.toNat (by simp; omega)
  rw [show ((k.toNat : Nat) : Int) = k by omega] at h
  exact Ev.of (spec_l8Line.mono _ _ _) h

end Go.Proofs.Ytmenehnfgenlpaa.PA
namespace Go.Proofs.Ytmenehnfgenlpaa.PA
open Go.RowKit Go.Proofs.YtmenehnfgenlpaaW.PrintWords Go.Proofs.YtmenehnfgenlpaaW.PrintLast Go.Proofs.YtmenehnfgenlpaaW.PrintMore
set_option linter.unusedVariables false
set_option linter.unusedSimpArgs false

theorem sCubeLine_ev (p k : Int) : Ev (fun n => spec_CubeLine.f n p k) (clP p k) := by
  unfold spec_CubeLine.f clP
  refine Ev.bind (sRoots_ev p) ?_
  rcases rootsT_cases p with h | h
  · rw [h, if_neg (by simp)]; exact Ev.no (by simp) (Ev.now _)
  · have hl : (rootsT p).length = 3 := by rcases h with rfl | rfl | rfl | rfl <;> rfl
    have hne : rootsT p ≠ [] := by intro e; rw [e] at hl; simp at hl
    refine Ev.yes (by simp [hne]) ?_
    by_cases h0 : 0 ≤ k
    · refine Ev.bind (a := decide (k ≤ 26)) (Ev.k (by unfold spec_l6In.f; rw [if_pos (by omega)])) ?_
      by_cases h1 : k < 27
      · rw [if_pos ⟨hne, h0, h1⟩, decide_eq_true (show k ≤ 26 by omega)]
        exact Ev.yes rfl (Ev.bind (sl8Line_ev h h0 h1) (Ev.now _))
      · rw [if_neg (fun e => h1 e.2.2), decide_eq_false (show ¬ k ≤ 26 by omega)]
        exact Ev.no (by simp) (Ev.now _)
    · refine Ev.bind (a := false) (Ev.k (by unfold spec_l6In.f; rw [if_neg (by omega)])) ?_
      rw [if_neg (fun e => h0 e.2.1)]
      exact Ev.no (by simp) (Ev.now _)

end Go.Proofs.Ytmenehnfgenlpaa.PA
namespace Go.Proofs.Ytmenehnfgenlpaa.PA
open Go.RowKit Go.Proofs.YtmenehnfgenlpaaW.PrintWords Go.Proofs.YtmenehnfgenlpaaW.PrintLast Go.Proofs.YtmenehnfgenlpaaW.PrintMore
set_option linter.unusedVariables false
set_option linter.unusedSimpArgs false

/-- the bytes that a code is read as -/
def bytesOk (b : List Int) : Prop := b.length ≤ 2000 ∧ ∀ x ∈ b, 0 ≤ x ∧ x ≤ 255
theorem wf_u8 {x : Int} (h : (Lit.int .u8 x).wf = true) : 0 ≤ x ∧ x ≤ 255 := by
  simp [Lit.wf, IntKind.min, IntKind.max, IntKind.signed, IntKind.bits] at h
  omega
theorem l6Open_eq (l : List Int) (h : ∀ x ∈ l, (Lit.int .u8 x).wf = true) : ∃ b, spec_l6Open.f l = some (b, 0) ∧ bytesOk b := by
  unfold spec_l6Open.f
  by_cases hl : (l.length : Int) > 2000
  · rw [if_pos hl, if_pos (by omega)]
    exact ⟨_, rfl, by simp; omega, fun x hx => wf_u8 (h x (List.mem_of_mem_take hx))⟩
  · rw [if_neg hl]
    exact ⟨_, rfl, by omega, fun x hx => wf_u8 (h x hx)⟩

end Go.Proofs.Ytmenehnfgenlpaa.PA
namespace Go.Proofs.Ytmenehnfgenlpaa.PA
open Go.RowKit Go.Proofs.YtmenehnfgenlpaaW.PrintWords Go.Proofs.YtmenehnfgenlpaaW.PrintLast Go.Proofs.YtmenehnfgenlpaaW.PrintMore
set_option linter.unusedVariables false
set_option linter.unusedSimpArgs false

theorem bits_xor_nonneg (x y : Int) (hx : 0 ≤ x) (hy : 0 ≤ y) (hx2 : x < 2 ^ 40) (hy2 : y < 2 ^ 40) : 0 ≤ Go.bits .xor .i64 x y := by
  obtain ⟨a, rfl⟩ := Int.eq_ofNat_of_zero_le hx
  obtain ⟨b, rfl⟩ := Int.eq_ofNat_of_zero_le hy
  have ha : a < 2 ^ 40 := by omega
  have hb : b < 2 ^ 40 := by omega
  have hc := Nat.xor_lt_two_pow ha hb
  have e : (BitVec.ofInt 64 (a : Int) ^^^ BitVec.ofInt 64 (b : Int)).toNat = a ^^^ b := by
    rw [BitVec.toNat_xor, BitVec.ofInt_natCast, BitVec.ofInt_natCast, BitVec.toNat_ofNat, BitVec.toNat_ofNat, Nat.mod_eq_of_lt (by omega), Nat.mod_eq_of_lt (by omega)]
  show 0 ≤ IntKind.wrap .i64 (((BitVec.ofInt 64 (a : Int) ^^^ BitVec.ofInt 64 (b : Int)).toNat : Nat) : Int)
  rw [e]
  generalize a ^^^ b = c at hc
  have hm : ((c : Int)) % (2 ^ 64 : Int) = c := by omega
  simp only [IntKind.wrap, IntKind.bits, IntKind.signed, hm]
  rw [if_neg (by simp; omega)]
  omega
theorem rd_byte {b : List Int} (h : bytesOk b) (i : Int) : 0 ≤ rd b i ∧ rd b i ≤ 255 := by
  unfold rd
  rw [List.getD_eq_getElem?_getD]
  cases hi : b[i.toNat]? with
  | none => simp
  | some x => exact h.2 x (List.mem_of_getElem? hi)
theorem pick_ev (b : List Int) (h : bytesOk b) (p n : Int) (hp : 0 ≤ p) (hp2 : p ≤ 1000000) : ∃ v, Ev (fun k => spec_l6Rd_pick.f k b p n) (v, p + 1) ∧ 0 ≤ v ∧ (1 ≤ n → v < n) := by
  have w1 : wrap64 (p + 1) = p + 1 := wsm (by omega) (by omega)
  have w2 : wrap64 (p + 1 - 1) = p := by rw [wsm (by omega) (by omega)]; omega
  unfold spec_l6Rd_pick.f
  by_cases hn : n < 1
  · refine ⟨0, Ev.yes hn ?_, by omega, by omega⟩
    refine Ev.step (f := fun _ => some (0, p + 1)) (fun k => ?_) (Ev.now _)
    rw [spec_l6Rd_pick.j0, if_pos rfl, w1]
  · by_cases hb : b.length = 0
    · refine ⟨0, Ev.no hn ?_, by omega, by omega⟩
      refine Ev.step (f := fun _ => some (0, p + 1)) (fun k => ?_) (Ev.now _)
      rw [spec_l6Rd_pick.j0, if_pos (by simp [hb]), w1]
    · have hbf : ¬ ((b.length : Int) == 0) = true := by simp; intro e; simp [e] at hb
      have hb0 : ¬ (b.length : Int) = 0 := by omega
      by_cases hlt : p < (b.length : Int)
      · have hr := rd_byte h p
        refine ⟨Int.tmod (rd b p) n, Ev.no hn ?_, Int.tmod_nonneg _ hr.1, fun _ => Int.tmod_lt_of_pos _ (by omega)⟩
        refine Ev.step (f := fun _ => some (Int.tmod (rd b p) n, p + 1)) (fun k => ?_) (Ev.now _)
        rw [spec_l6Rd_pick.j0, if_neg hbf, w1, w2, if_pos hlt, if_pos hp, if_neg (by omega), wsm (by omega) (by omega)]
      · have hlp : 0 < (b.length : Int) := by omega
        have hi1 := Int.tmod_nonneg (b.length : Int) hp
        have hi2 := Int.tmod_lt_of_pos p hlp
        have w3 : wrap64 (wrap64 (p * 7) + 3) = p * 7 + 3 := by rw [wsm (i := p * 7) (by omega) (by omega), wsm (by omega) (by omega)]
        have hj1 := Int.tmod_nonneg (b.length : Int) (a := p * 7 + 3) (by omega)
        have hj2 := Int.tmod_lt_of_pos (p * 7 + 3) hlp
        have r1 := rd_byte h (Int.tmod p (b.length : Int))
        have r2 := rd_byte h (Int.tmod (p * 7 + 3) (b.length : Int))
        have hq0 : 0 ≤ Int.tdiv p (b.length : Int) := Int.tdiv_nonneg hp (by omega)
        have hq1 : Int.tdiv p (b.length : Int) ≤ p := by rw [Int.tdiv_eq_ediv_of_nonneg hp]; exact Int.ediv_le_self _ hp
        have e := @spec_l6Rd_pick.j0.eq_2
        generalize hx : wrap64 (wrap64 (wrap64 (wrap64 (wrap64 (rd b (Int.tmod p (b.length : Int))) * 131) + wrap64 (wrap64 (rd b (Int.tmod (p * 7 + 3) (b.length : Int))) * 1117)) + wrap64 (p * 29)) + wrap64 (wrap64 (Int.tdiv p (b.length : Int)) * 53)) = X
        have hX : 0 ≤ X ∧ X < 2 ^ 40 := by
          rw [← hx]
          generalize rd b (Int.tmod p (b.length : Int)) = y1 at r1
          generalize rd b (Int.tmod (p * 7 + 3) (b.length : Int)) = y2 at r2
          generalize Int.tdiv p (b.length : Int) = y3 at hq0 hq1
          rw [wsm (i := y1) (by omega) (by omega), wsm (i := y2) (by omega) (by omega), wsm (i := y3) (by omega) (by omega), wsm (i := y1 * 131) (by omega) (by omega), wsm (i := y2 * 1117) (by omega) (by omega), wsm (i := y3 * 53) (by omega) (by omega), wsm (i := p * 29) (by omega) (by omega), wsm (i := y1 * 131 + y2 * 1117) (by omega) (by omega), wsm (i := y1 * 131 + y2 * 1117 + p * 29) (by omega) (by omega), wsm (by omega) (by omega)]
          omega
        have hd : 0 ≤ Int.tdiv X 64 ∧ Int.tdiv X 64 ≤ X := by rw [Int.tdiv_eq_ediv_of_nonneg hX.1]; omega
        have hxor := bits_xor_nonneg X (wrap64 (Int.tdiv X 64)) hX.1 (by rw [wsm (by omega) (by omega)]; omega) hX.2 (by rw [wsm (by omega) (by omega)]; omega)
        refine ⟨Int.tmod (Go.bits .xor .i64 X (wrap64 (Int.tdiv X 64))) n, Ev.no hn ?_, Int.tmod_nonneg _ hxor, fun _ => Int.tmod_lt_of_pos _ (by omega)⟩
        refine Ev.step (f := fun _ => some (Int.tmod (Go.bits .xor .i64 X (wrap64 (Int.tdiv X 64))) n, p + 1)) (fun k => ?_) (Ev.now _)
        rw [spec_l6Rd_pick.j0, if_neg hbf, w1, w2, if_neg hlt, if_neg hb0, if_pos hi1, if_pos hi2, w3, if_pos hj1, if_pos hj2, if_neg (by omega), hx]

end Go.Proofs.Ytmenehnfgenlpaa.PA
namespace Go.Proofs.Ytmenehnfgenlpaa.PA
open Go.RowKit Go.Proofs.YtmenehnfgenlpaaW.PrintWords Go.Proofs.YtmenehnfgenlpaaW.PrintLast Go.Proofs.YtmenehnfgenlpaaW.PrintMore
set_option linter.unusedVariables false
set_option linter.unusedSimpArgs false

theorem l91Index_ev (b : List Int) (hb : bytesOk b) (s : Int) (h0 : 0 ≤ s) (h1 : s ≤ 900000) : ∃ v s', Ev (fun k => spec_l91Index.f k b s) (v, s') ∧ -1 ≤ v ∧ v ≤ 27 ∧ s ≤ s' ∧ s' ≤ s + 2 := by
  obtain ⟨u, hu, u0, u1⟩ := pick_ev b hb s 20 (by omega) (by omega)
  unfold spec_l91Index.f
  by_cases hz : u = 0
  · obtain ⟨x, hx, x0, x1⟩ := pick_ev b hb (s + 1) 2 (by omega) (by omega)
    have hx1 := x1 (by omega)
    refine ⟨rd [-1, 27] x, s + 1 + 1, Ev.bind hu (Ev.yes hz (Ev.bind (a := [-1, 27]) (Ev.now _) (Ev.bind hx (Ev.yes (by show 0 ≤ x; omega) (Ev.yes (by show x < 2; omega) (Ev.now _)))))), ?_, ?_, by omega, by omega⟩
    · rcases (show x = 0 ∨ x = 1 by omega) with rfl | rfl <;> decide
    · rcases (show x = 0 ∨ x = 1 by omega) with rfl | rfl <;> decide
  · obtain ⟨x, hx, x0, x1⟩ := pick_ev b hb (s + 1) 27 (by omega) (by omega)
    have hx1 := x1 (by omega)
    exact ⟨x, s + 1 + 1, Ev.bind hu (Ev.no hz (Ev.bind hx (Ev.now _))), by omega, by omega, by omega, by omega⟩

end Go.Proofs.Ytmenehnfgenlpaa.PA
namespace Go.Proofs.Ytmenehnfgenlpaa.PA
open Go.RowKit Go.Proofs.YtmenehnfgenlpaaW.PrintWords Go.Proofs.YtmenehnfgenlpaaW.PrintLast Go.Proofs.YtmenehnfgenlpaaW.PrintMore
set_option linter.unusedVariables false
set_option linter.unusedSimpArgs false

theorem l92Cube_ev (l : List Int) (h : ∀ x ∈ l, (Lit.int .u8 x).wf = true) : ∃ p n, Ev (fun k => spec_l92Cube.f k l) (p, n) ∧ -1 ≤ n ∧ n ≤ 27 := by
  obtain ⟨b, hb, hok⟩ := l6Open_eq l h
  obtain ⟨u, hu, u0, u1⟩ := pick_ev b hok 0 8 (by omega) (by omega)
  have hu1 := u1 (by omega)
  obtain ⟨n, s', hn, n0, n1, _, _⟩ := l91Index_ev b hok (0 + 1) (by omega) (by omega)
  refine ⟨rd [7, 13, 19, 31, 7, 13, 11, 9] u, n, ?_, n0, n1⟩
  unfold spec_l92Cube.f
  exact Ev.bind (Ev.k hb) (Ev.bind (a := [7, 13, 19, 31, 7, 13, 11, 9]) (Ev.now _) (Ev.bind hu (Ev.yes (by show 0 ≤ u; omega) (Ev.yes (by show u < 8; omega) (Ev.bind hn (Ev.now _))))))

end Go.Proofs.Ytmenehnfgenlpaa.PA
namespace Go.Proofs.Ytmenehnfgenlpaa.PA
open Go.RowKit Go.Proofs.YtmenehnfgenlpaaW.PrintWords Go.Proofs.YtmenehnfgenlpaaW.PrintLast Go.Proofs.YtmenehnfgenlpaaW.PrintMore
set_option linter.unusedVariables false
set_option linter.unusedSimpArgs false

theorem sameInts_l (a b : List Int) (hab : a.length = b.length) (hl : a.length ≤ 1000000000) : ∀ (d : Nat) (i : Nat), i + d = a.length → Ev (fun k => laws_sameInts.l0 k a b (i : Int)) (decide (a.drop i = b.drop i))
  | 0, i, h => by
    refine Ev.step (f := fun _ => some true) (fun k => ?_) ?_
    · rw [laws_sameInts.l0, if_neg (by omega)]
    · rw [List.drop_eq_nil_of_le (by omega), List.drop_eq_nil_of_le (by omega)]; exact Ev.now _
  | d + 1, i, h => by
    have ih := sameInts_l a b hab hl d (i + 1) (by omega)
    rw [rd_drop a i (by omega), rd_drop b i (by omega)]
    by_cases hr : rd a (i : Int) = rd b (i : Int)
    · refine Ev.step (f := fun k => laws_sameInts.l0 k a b ((i + 1 : Nat) : Int)) (fun k => ?_) ?_
      · rw [laws_sameInts.l0, if_pos (by omega), if_pos (by omega), if_pos (by omega), if_pos hr, wsm (by omega) (by omega)]
        simp
      · simpa [hr] using ih
    · refine Ev.step (f := fun _ => some false) (fun k => ?_) ?_
      · rw [laws_sameInts.l0, if_pos (by omega), if_pos (by omega), if_pos (by omega), if_neg hr]
      · simpa [hr] using Ev.now false
theorem sameInts_ev (a b : List Int) (hl : a.length ≤ 1000000000) : Ev (fun k => laws_sameInts.f k a b) (decide (a = b)) := by
  unfold laws_sameInts.f
  refine Ev.ite (fun h => ?_) (fun h => ?_)
  · simpa using sameInts_l a b (by omega) hl a.length 0 (by omega)
  · rw [decide_eq_false (fun e => h (by rw [e]))]; exact Ev.now _

end Go.Proofs.Ytmenehnfgenlpaa.PA
namespace Go.Proofs.Ytmenehnfgenlpaa.PA
open Go.RowKit Go.Proofs.YtmenehnfgenlpaaW.PrintWords Go.Proofs.YtmenehnfgenlpaaW.PrintLast Go.Proofs.YtmenehnfgenlpaaW.PrintMore
set_option linter.unusedVariables false
set_option linter.unusedSimpArgs false

theorem Equal_l (a b : List Int) (hab : a.length = b.length) (hl : a.length ≤ 1000000000) : ∀ (d i : Nat), i + d = a.length → Ev (fun k => slices_Equal_int_int.l0 k a b (a.length : Int) (i : Int)) (decide (a.drop i = b.drop i))
  | 0, i, h => by
    refine Ev.step (f := fun _ => some true) (fun k => ?_) ?_
    · rw [slices_Equal_int_int.l0, if_neg (by omega)]
    · rw [List.drop_eq_nil_of_le (by omega), List.drop_eq_nil_of_le (by omega)]; exact Ev.now _
  | d + 1, i, h => by
    have ih := Equal_l a b hab hl d (i + 1) (by omega)
    rw [rd_drop a i (by omega), rd_drop b i (by omega)]
    by_cases hz : rd a (i : Int) = rd b (i : Int)
    · refine Ev.step (f := fun k => slices_Equal_int_int.l0 k a b (a.length : Int) ((i + 1 : Nat) : Int)) (fun k => ?_) ?_
      · rw [slices_Equal_int_int.l0, if_pos (by omega), if_pos (by omega), if_pos (by omega), if_pos (by omega), if_pos hz, wsm (by omega) (by omega)]; rfl
      · simpa [hz] using ih
    · refine Ev.step (f := fun _ => some false) (fun k => ?_) ?_
      · rw [slices_Equal_int_int.l0, if_pos (by omega), if_pos (by omega), if_pos (by omega), if_pos (by omega), if_neg hz]
      · rw [decide_eq_false (by simp [hz])]
        exact Ev.now false
theorem Equal_ev (a b : List Int) (hl : a.length ≤ 1000000000) : Ev (fun k => slices_Equal_int_int.f k a b) (decide (a = b)) := by
  unfold slices_Equal_int_int.f
  by_cases h : a.length = b.length
  · refine Ev.yes (by omega) ?_
    simpa using Equal_l a b h hl a.length 0 (by omega)
  · refine Ev.no (by omega) ?_
    rw [decide_eq_false (fun e => h (by rw [e]))]
    exact Ev.now _

end Go.Proofs.Ytmenehnfgenlpaa.PA
namespace Go.Proofs.Ytmenehnfgenlpaa.PA
open Go.RowKit Go.Proofs.YtmenehnfgenlpaaW.PrintWords Go.Proofs.YtmenehnfgenlpaaW.PrintLast Go.Proofs.YtmenehnfgenlpaaW.PrintMore
set_option linter.unusedVariables false
set_option linter.unusedSimpArgs false

/-- the first number that is not 0 (0 if there is none) -/
def headP (l : List Int) : Int := (l.find? (fun x => x != 0)).getD 0
/-- a row divided by its first number that is not 0 -/
def rowP (p : Int) (l : List Int) : List Int := l.map fun x => x * invP p (headP l) % p
theorem headP_cons (x : Int) (l : List Int) : headP (x :: l) = if x = 0 then headP l else x := by
  unfold headP
  by_cases h : x = 0
  · simp [h]
  · simp [h]
theorem headP_range {p : Int} {l : List Int} (hr : ∀ x ∈ l, 0 ≤ x ∧ x < p) (hp : 0 < p) : 0 ≤ headP l ∧ headP l < p := by
  unfold headP
  cases h : l.find? (fun x => x != 0) with
  | none => simp; omega
  | some y => exact hr y (List.mem_of_find?_eq_some h)
theorem mul30 {p x y : Int} (hp : p ≤ 31) (h0 : 0 ≤ x) (h1 : x < p) (h2 : 0 ≤ y) (h3 : y < p) : 0 ≤ x * y ∧ x * y ≤ 900 := by
  have h := Int.mul_le_mul (show x ≤ 30 by omega) (show y ≤ 30 by omega) h2 (by omega)
  exact ⟨Int.mul_nonneg h0 h2, by omega⟩
theorem l4Row_l {p : Int} (hp : primeB p = true) (l : List Int) (hr : ∀ x ∈ l, 0 ≤ x ∧ x < p) (hl : l.length ≤ 1000) : ∀ (d i : Nat) (acc : List Int) (n : Int), i + d = l.length → acc.length = i → (n = 0 ∨ 0 ≤ n ∧ n < p) →
    Ev (fun k => spec_l4Row.l0 k p l acc n (i : Int)) (acc ++ (l.drop i).map fun x => x * (if n = 0 then invP p (headP (l.drop i)) else n) % p)
  | 0, i, acc, n, h, ha, hn => by
    refine Ev.step (f := fun _ => some acc) (fun k => ?_) ?_
    · rw [spec_l4Row.l0, if_neg (by omega)]
    · rw [List.drop_eq_nil_of_le (by omega)]; simpa using Ev.now acc
  | d + 1, i, acc, n, h, ha, hn => by
    have hb := prime_bd hp
    have hi : i < l.length := by omega
    have hx := hr _ (List.getElem_mem hi)
    rw [← rd_at l i hi] at hx
    rw [rd_drop l i hi]
    by_cases h0 : n = 0
    · have hv := invP_spec hp hx.1 hx.2
      have hm := mul30 hb.2 hx.1 hx.2 hv.2.1 hv.2.2.1
      refine Ev.step (f := fun k => (spec_l4Turned.f k p (rd l (i : Int))).bind fun t => spec_l4Row.l0 k p l (acc ++ [Int.tmod (wrap64 ((rd l (i : Int)) * t)) p]) t ((i + 1 : Nat) : Int)) (fun k => ?_) (Ev.bind (turned_ev hp hx.1 hx.2) ?_)
      · rw [spec_l4Row.l0, if_pos (by omega), if_pos h0, if_pos (by omega)]
        congr 1
        funext t
        rw [if_neg (by omega), if_pos (by omega), wsm (i := (i : Int) + 1) (by omega) (by omega)]
        rfl
      · have ih := l4Row_l hp l hr hl d (i + 1) (acc ++ [Int.tmod (wrap64 ((rd l (i : Int)) * invP p (rd l (i : Int)))) p]) (invP p (rd l (i : Int))) (by omega) (by simp [ha]) (.inr ⟨hv.2.1, hv.2.2.1⟩)
        rw [wsm (by omega) (by omega), Int.tmod_eq_emod_of_nonneg hm.1] at ih ⊢
        rw [List.append_assoc] at ih
        rw [headP_cons, if_pos h0]
        by_cases hz : rd l (i : Int) = 0
        · rw [if_pos hz]
          rw [if_pos (hv.2.2.2.2 hz)] at ih
          simp only [hz, Int.zero_mul, List.map_cons] at ih ⊢
          exact ih
        · rw [if_neg hz]
          rw [if_neg (invP_ne hp hx.1 hx.2 hz)] at ih
          simpa using ih
    · have hn' : 0 ≤ n ∧ n < p := by rcases hn with h | h; exact absurd h h0; exact h
      have hm := mul30 hb.2 hx.1 hx.2 hn'.1 hn'.2
      refine Ev.step (f := fun k => spec_l4Row.l0 k p l (acc ++ [Int.tmod (wrap64 ((rd l (i : Int)) * n)) p]) n ((i + 1 : Nat) : Int)) (fun k => ?_) ?_
      · rw [spec_l4Row.l0, if_pos (by omega), if_neg h0, if_pos (by omega), if_neg (by omega), if_pos (by omega), wsm (i := (i : Int) + 1) (by omega) (by omega)]
        rfl
      · have ih := l4Row_l hp l hr hl d (i + 1) (acc ++ [Int.tmod (wrap64 ((rd l (i : Int)) * n)) p]) n (by omega) (by simp [ha]) hn
        rw [wsm (by omega) (by omega), Int.tmod_eq_emod_of_nonneg hm.1] at ih ⊢
        rw [if_neg h0] at ih ⊢
        simpa using ih
theorem l4Row_ev {p : Int} (hp : primeB p = true) (l : List Int) (hr : ∀ x ∈ l, 0 ≤ x ∧ x < p) (hl : l.length ≤ 1000) : Ev (fun k => spec_l4Row.f k p l) (rowP p l) := by
  have := l4Row_l hp l hr hl l.length 0 [] 0 (by omega) rfl (.inl rfl)
  unfold spec_l4Row.f
  simpa [rowP] using this

end Go.Proofs.Ytmenehnfgenlpaa.PA
namespace Go.Proofs.Ytmenehnfgenlpaa.PA
open Go.RowKit Go.Proofs.YtmenehnfgenlpaaW.PrintWords Go.Proofs.YtmenehnfgenlpaaW.PrintLast Go.Proofs.YtmenehnfgenlpaaW.PrintMore
set_option linter.unusedVariables false
set_option linter.unusedSimpArgs false

theorem inverse_table : ∀ p ∈ ([7, 11, 13, 17, 19, 23, 29, 31] : List Int), ∀ x ∈ List.range 31, (x : Int) < p → (x : Int) ≠ 0 → impl_inverse.f 40 (x : Int) p = some (invP p (x : Int)) := by decide +kernel
theorem inverse_ev {p : Int} (hp : primeB p = true) {x : Int} (h0 : 0 ≤ x) (h1 : x < p) (hx : x ≠ 0) : Ev (fun k => impl_inverse.f k x p) (invP p x) := by
  have hb := prime_bd hp
  refine Ev.of (impl_inverse.mono x p) (k := 40) ?_
  have h2 := inverse_table p (by have := primeB_cases hp; simp; omega) x.toNat (by simp; omega) (by omega) (by omega)
  rwa [show ((x.toNat : Nat) : Int) = x by omega] at h2
theorem tmod_bd {p : Int} (hp : 0 < p) (x : Int) : -p < Int.tmod x p ∧ Int.tmod x p < p := by
  refine ⟨?_, Int.tmod_lt_of_pos x hp⟩
  have h1 := Int.tmod_lt_of_pos (-x) hp
  rw [Int.neg_tmod] at h1
  omega
theorem tmod_emod {p : Int} (x : Int) : (Int.tmod x p + p) % p = x % p := by
  have h := Int.mul_tdiv_add_tmod x p
  have e : x = Int.tmod x p + p * x.tdiv p := by omega
  rw [Int.add_emod_right]
  conv => rhs; rw [e, Int.add_mul_emod_self_left]
theorem tmod_small {x p : Int} (hp : 7 ≤ p ∧ p ≤ 31) (h0 : -1000000000 ≤ x) (h1 : x ≤ 1000000000) : modV p (wrap64 x) = x % p := by
  rw [wsm (by omega) (by omega), modV]
  have hb := tmod_bd (p := p) (by omega) x
  rw [wsm (by omega) (by omega), Int.tmod_eq_emod_of_nonneg (by omega), tmod_emod]
theorem lessFrom_eq {p t : Int} (hp : 7 ≤ p ∧ p ≤ 31) (ht : 0 ≤ t ∧ t < p) (h : List Int) (hh : ∀ x ∈ h, 0 ≤ x ∧ x < p) : ∀ (r : List Int) (i : Nat), (∀ x ∈ r, 0 ≤ x ∧ x < p) → i + r.length = h.length → lessFrom p t h i r = lessP p t (h.drop i) r
  | [], _, _, _ => by simp [lessFrom, lessP]
  | x :: r, i, hr, hl => by
    have hx := hr x (by simp)
    simp only [List.length_cons] at hl
    have hy : 0 ≤ rd h (i : Int) ∧ rd h (i : Int) < p := by rw [rd_at h i (by omega)]; exact hh _ (List.getElem_mem _)
    have hm := mul30 hp.2 ht.1 ht.2 hy.1 hy.2
    rw [rd_drop h i (by omega), lessFrom, lessFrom_eq hp ht h hh r (i + 1) (fun z hz => hr z (by simp [hz])) (by omega), wsm (i := t * rd h (i : Int)) (by omega) (by omega), tmod_small hp (by omega) (by omega)]
    simp [lessP]
theorem lessRow_eq {p : Int} {w : Nat} (hp : 7 ≤ p ∧ p ≤ 31) (c : Nat) (hc : c < w) {h r : List Int} (hh : h.length = w ∧ ∀ x ∈ h, 0 ≤ x ∧ x < p) (hr : r.length = w ∧ ∀ x ∈ r, 0 ≤ x ∧ x < p) : lessRow p c h r = lessP p (rd r (c : Int)) h r := by
  rw [lessRow, lessFrom_eq hp (ok_rd hr c hc) h hh.2 r 0 hr.2 (by omega), List.drop_zero]
theorem scaleRow_eq {p b : Int} {w : Nat} (hp : 7 ≤ p ∧ p ≤ 31) (hb : 0 ≤ b ∧ b < p) {r : List Int} (hr : r.length = w ∧ ∀ x ∈ r, 0 ≤ x ∧ x < p) : scaleRow p b r = scaleP p b r := by
  rw [scaleRow, scaleP]
  refine List.map_congr_left fun x hx => ?_
  have h1 := hr.2 x hx
  have hm := mul30 hp.2 h1.1 h1.2 hb.1 hb.2
  rw [wsm (by omega) (by omega), Int.tmod_eq_emod_of_nonneg hm.1]
theorem redCols_ev {p : Int} (hp : primeB p = true) {w : Nat} : ∀ (d c : Nat) (L O : List (List Int)), c + d = w → okR p w L → okR p w O → Ev (fun k => redCols k p d c L O) (redP p d c L O)
  | 0, _, _, O, _, _, _ => Ev.k rfl
  | d + 1, c, L, O, hw, hL, hO => by
    have hb := prime_bd hp
    unfold redCols redP
    cases hf : L.findIdx? (fun row => rd row (c : Int) != 0) with
    | none => exact redCols_ev hp d (c + 1) L O (by omega) hL hO
    | some i =>
      simp only
      obtain ⟨hi, hne⟩ := find_lt hf
      have hx := hL _ (mem_getD hi)
      have hxr := ok_rd hx c (by omega)
      have hne' : rd (L.getD i []) (c : Int) ≠ 0 := by simpa using hne
      have hinv := invP_spec hp hxr.1 hxr.2
      refine Ev.bind (inverse_ev hp hxr.1 hxr.2 hne') ?_
      have hs := scale_ok (p := p) (b := invP p (rd (L.getD i []) (c : Int))) (by omega) hx.1
      rw [scaleRow_eq hb ⟨hinv.2.1, hinv.2.2.1⟩ hx]
      have e1 : ∀ M : List (List Int), okR p w M → M.map (lessRow p c (scaleP p (invP p (rd (L.getD i []) (c : Int))) (L.getD i []))) = M.map fun r => lessP p (rd r (c : Int)) (scaleP p (invP p (rd (L.getD i []) (c : Int))) (L.getD i [])) r :=
        fun M hM => List.map_congr_left fun r hr => lessRow_eq hb c (by omega) hs (hM r hr)
      rw [e1 _ (okR_erase i hL), e1 _ hO]
      exact redCols_ev hp d (c + 1) _ _ (by omega) (okR_less _ (by omega) hs.1 (okR_erase i hL)) (okR_app (okR_less _ (by omega) hs.1 hO) (okR_cons hs (okR_nil p w)))
/-- reduced, on rows of one length -/
theorem reduced_ev {p : Int} (hp : primeB p = true) {w : Nat} (L : List (List Int)) (hw : w < 1000000) (hl : L.length < 1000000) (hL : ∀ r ∈ L, r.length = w) : Ev (fun k => impl_reduced.f k p L) (redP p w 0 (L.map fun r => r.map (modV p)) []) := by
  have hb := prime_bd hp
  have hok : okR p w (L.map fun r => r.map (modV p)) := fun x hx => by
    obtain ⟨r, hr, rfl⟩ := List.mem_map.1 hx
    refine ⟨by rw [List.length_map, hL r hr], fun y hy => ?_⟩
    obtain ⟨z, _, rfl⟩ := List.mem_map.1 hy
    have h2 := tmod_bd (p := p) (by omega) z
    rw [modV, wsm (by omega) (by omega), Int.tmod_eq_emod_of_nonneg (by omega)]
    exact ⟨Int.emod_nonneg _ (by omega), Int.emod_lt_of_pos _ (by omega)⟩
  cases L with
  | nil =>
    have e : ∀ d c, redP p d c [] [] = [] := fun d => by
      induction d with
      | zero => intro c; rfl
      | succ d ih => intro c; rw [redP]; exact ih (c + 1)
    rw [List.map_nil, e]
    refine Ev.k (α := List (List Int)) (x := some []) rfl |>.congr fun k => ?_
    rw [impl_reduced.f, if_neg (by omega), if_pos ⟨by simp, by simp, by simp⟩]
    simp [redCols]
  | cons r L =>
    have hr := hL r (by simp)
    refine (redCols_ev hp w 0 _ [] (by omega) hok (okR_nil p w)).congr fun k => ?_
    rw [impl_reduced.f, if_neg (by omega), if_pos ⟨hl, by simpa [hr] using hw, by simpa [hr] using hL⟩]
    simp [hr]
theorem modV_self {p x : Int} (hp : primeB p = true) (h0 : 0 ≤ x) (h1 : x < p) : modV p x = x := by
  have hb := prime_bd hp
  rw [modV, Int.tmod_eq_of_lt h0 h1, wsm (by omega) (by omega), Int.tmod_eq_emod_of_nonneg (by omega), Int.add_emod_right, Int.emod_eq_of_lt h0 h1]
theorem reduced_ok {p : Int} (hp : primeB p = true) {w : Nat} (L : List (List Int)) (hw : w < 1000000) (hl : L.length < 1000000) (hL : okR p w L) : Ev (fun k => impl_reduced.f k p L) (redP p w 0 L []) := by
  have h := reduced_ev hp L hw hl (fun r hr => (hL r hr).1)
  have e : (L.map fun r => r.map (modV p)) = L := by
    rw [List.map_congr_left (g := id)]
    · simp
    · intro r hr
      rw [List.map_congr_left (g := id)]
      · simp
      · intro x hx; have := (hL r hr).2 x hx; exact modV_self hp this.1 this.2
  rwa [e] at h

end Go.Proofs.Ytmenehnfgenlpaa.PA
namespace Go.Proofs.Ytmenehnfgenlpaa.PA
open Go.RowKit Go.Proofs.YtmenehnfgenlpaaW.PrintWords Go.Proofs.YtmenehnfgenlpaaW.PrintLast Go.Proofs.YtmenehnfgenlpaaW.PrintMore
set_option linter.unusedVariables false
set_option linter.unusedSimpArgs false

theorem spanOf_l (M : List (List Int)) {w : Nat} (hw : w ≤ 1000) (hM : ∀ r ∈ M, r.length = w) (hl : M.length ≤ 1000000) : ∀ (d i : Nat), i + d = M.length → Ev (fun k => impl_spanOf.l0 k (M.take i).flatten M (M.length : Int) (i : Int)) M.flatten
  | 0, i, h => by
    refine Ev.step (f := fun _ => some M.flatten) (fun k => ?_) (Ev.now _)
    rw [impl_spanOf.l0, if_neg (by omega), List.take_of_length_le (by omega)]
  | d + 1, i, h => by
    have hi : i < M.length := by omega
    refine Ev.step (f := fun k => impl_spanOf.l0 k (M.take (i + 1)).flatten M (M.length : Int) ((i + 1 : Nat) : Int)) (fun k => ?_) (spanOf_l M hw hM hl d (i + 1) (by omega))
    have e1 : (M.take (i + 1)).flatten = (M.take i).flatten ++ M.getD i [] := by
      rw [List.take_add_one, List.flatten_append, List.getD_eq_getElem?_getD, List.getElem?_eq_getElem hi]; simp
    have e2 : rd_L1 M (i : Int) = M.getD i [] := by simp [rd_L1]
    have h1 : (M.take i).flatten.length = i * w := by rw [flat_len _ (fun r hr => hM r (List.mem_of_mem_take hr)), List.length_take, Nat.min_eq_left (by omega)]
    have h2 : (M.getD i []).length = w := hM _ (mem_getD hi)
    have h3 : i * w ≤ 1000000 * 1000 := Nat.mul_le_mul (by omega) hw
    rw [impl_spanOf.l0, if_pos (by omega), if_pos (by omega), if_pos (by omega), e2, if_pos (by omega), e1, wsm (by omega) (by omega)]
    rfl
theorem spanOf_ev {p : Int} (hp : primeB p = true) {w : Nat} (hw : w ≤ 1000) (L : List (List Int)) (hL : okR p w L) (hl : L.length ≤ 1000) : Ev (fun k => impl_spanOf.f k p L) (spanP p w L) := by
  unfold impl_spanOf.f
  have hb := prime_bd hp
  have hlen := redP_len p w 0 L []
  simp at hlen
  refine Ev.bind (reduced_ok hp L (by omega) (by omega) hL) ?_
  have h := spanOf_l (redP p w 0 L []) hw (fun r hr => (redP_ok (by omega) w 0 L [] hL (okR_nil p w) r hr).1) (by omega) (redP p w 0 L []).length 0 (by omega)
  simpa [spanP] using h
theorem rowsOf_eq (l : List Int) (h : 4 ≤ l.length) : impl_rowsOf.f l = some [l.take 4, l.drop 4] := by
  rw [impl_rowsOf.f, if_pos (by omega)]

end Go.Proofs.Ytmenehnfgenlpaa.PA
namespace Go.Proofs.Ytmenehnfgenlpaa.PA
open Go.RowKit Go.Proofs.YtmenehnfgenlpaaW.PrintWords Go.Proofs.YtmenehnfgenlpaaW.PrintLast Go.Proofs.YtmenehnfgenlpaaW.PrintMore
set_option linter.unusedVariables false
set_option linter.unusedSimpArgs false

theorem isSpaceLine_ev (p : Int) (l : List Int) : Ev (fun k => impl_isSpaceLine.f k p l) (lineB p l) := by
  unfold impl_isSpaceLine.f lineB
  refine Ev.bind (Ev.k (areNumbers_eq p l 8)) ?_
  cases hn : numsB p l 8 with
  | false => exact Ev.no (by simp) (Ev.now _)
  | true =>
    obtain ⟨hp, hl, _⟩ := numsB_prime hn
    have hb := prime_bd hp
    refine Ev.yes rfl ?_
    refine Ev.bind (Ev.k (rowsOf_eq l (by omega))) ?_
    refine Ev.bind (spanOf_ev hp (by omega) _ (halves_ok hn) (by simp)) (Ev.bind (Equal_ev _ _ ?_) ?_)
    · rw [spanP_len (by omega) (halves_ok hn)]
      have h2 := redP_len p 4 0 [l.take 4, l.drop 4] []
      have h3 : rankP p 4 [l.take 4, l.drop 4] ≤ 2 := by simpa [rankP] using h2
      omega
    · rw [Bool.true_and]; exact Ev.now _

end Go.Proofs.Ytmenehnfgenlpaa.PA
namespace Go.Proofs.Ytmenehnfgenlpaa.PA
open Go.RowKit Go.Proofs.YtmenehnfgenlpaaW.PrintWords Go.Proofs.YtmenehnfgenlpaaW.PrintLast Go.Proofs.YtmenehnfgenlpaaW.PrintMore
set_option linter.unusedVariables false
set_option linter.unusedSimpArgs false

theorem iSpace_ev (p : Int) (l : List Int) : Ev (fun k => impl_SpaceIn.f k p l) (lineB p l) := by
  unfold impl_SpaceIn.f
  exact Ev.bind (isSpaceLine_ev p l) (Ev.now _)

end Go.Proofs.Ytmenehnfgenlpaa.PA
namespace Go.Proofs.Ytmenehnfgenlpaa.PA
open Go.RowKit Go.Proofs.YtmenehnfgenlpaaW.PrintWords Go.Proofs.YtmenehnfgenlpaaW.PrintLast Go.Proofs.YtmenehnfgenlpaaW.PrintMore
set_option linter.unusedVariables false
set_option linter.unusedSimpArgs false

/-- the same sums, exactly -/
def xs2 (f a : List Int) (two : Int) : Nat → Int → Int → Int → Int
  | 0, s, _, _ => s
  | d + 1, s, n, l => xs2 f a two d (s + rd f n * two * rd a l) (n + 1) (l + 1)
def xs1 (f a : List Int) (i : Int) : Nat → Int → Int → Int → Int
  | 0, s, _, _ => s
  | d + 1, s, n, j => xs1 f a i d (xs2 f a (rd a i * rd a j) (d + 1) s n j) (n + (d + 1 : Nat)) (j + 1)
def xs0 (f a : List Int) : Nat → Int → Int → Int → Int
  | 0, s, _, _ => s
  | d + 1, s, n, i => xs0 f a d (xs1 f a i (d + 1) s n i) (n + tri (d + 1)) (i + 1)
/-- the value before it is taken modulo p -/
def xval (f a : List Int) : Int := xs0 f a 4 0 0 0
/-- small numbers, as those of a form and of a place are -/
def small (l : List Int) : Prop := ∀ i, 0 ≤ rd l i ∧ rd l i ≤ 30
theorem small_of {p : Int} {l : List Int} {n : Nat} (h : numsB p l n = true) : small l := by
  intro i
  obtain ⟨hp, hl, hr⟩ := numsB_prime h
  have hb := prime_bd hp
  unfold rd
  rw [List.getD_eq_getElem?_getD]
  cases hi : l[i.toNat]? with
  | none => simp
  | some x => have := hr x (List.mem_of_getElem? hi); simp; omega
theorem mul_le_of {x y a b : Int} (h0 : 0 ≤ x) (h1 : x ≤ a) (h2 : 0 ≤ y) (h3 : y ≤ b) : 0 ≤ x * y ∧ x * y ≤ a * b :=
  ⟨Int.mul_nonneg h0 h2, Int.le_trans (Int.mul_le_mul_of_nonneg_right h1 h2) (Int.mul_le_mul_of_nonneg_left h3 (Int.le_trans h0 h1))⟩
theorem vs2_eq (f a : List Int) (hf : small f) (ha : small a) (two : Int) (ht : 0 ≤ two ∧ two ≤ 900) (d : Nat) : ∀ (s n l : Int), 0 ≤ s → s + d * 1000000 ≤ 100000000 →
    vs2 f a two d s n l = xs2 f a two d s n l ∧ 0 ≤ xs2 f a two d s n l ∧ xs2 f a two d s n l ≤ s + d * 1000000 := by
  induction d with
  | zero => intro s n l h0 h1; exact ⟨rfl, h0, by rw [xs2]; omega⟩
  | succ d ih =>
    intro s n l h0 h1
    have m1 := mul_le_of (hf n).1 (hf n).2 ht.1 ht.2
    have m2 := mul_le_of m1.1 m1.2 (ha l).1 (ha l).2
    rw [vs2, xs2, wsm (i := rd f n * two) (by omega) (by omega), wsm (i := rd f n * two * rd a l) (by omega) (by omega), wsm (by omega) (by omega)]
    have ih := ih (s + rd f n * two * rd a l) (n + 1) (l + 1) (by omega) (by omega)
    refine ⟨ih.1, ih.2.1, ?_⟩
    have := ih.2.2
    omega
theorem vs1_eq (f a : List Int) (hf : small f) (ha : small a) (i : Int) (d : Nat) : ∀ (s n j : Int), 0 ≤ s → s + (tri d) * 1000000 ≤ 100000000 →
    (vs1 f a i d s n j).1 = xs1 f a i d s n j ∧ 0 ≤ xs1 f a i d s n j ∧ xs1 f a i d s n j ≤ s + (tri d) * 1000000 := by
  induction d with
  | zero => intro s n j h0 h1; exact ⟨rfl, h0, by rw [xs1]; omega⟩
  | succ d ih =>
    intro s n j h0 h1
    have m1 := mul_le_of (ha i).1 (ha i).2 (ha j).1 (ha j).2
    rw [tri] at h1
    rw [vs1, xs1, wsm (i := rd a i * rd a j) (by omega) (by omega)]
    have h2 := vs2_eq f a hf ha (rd a i * rd a j) (by omega) (d + 1) s n j h0 (by omega)
    rw [h2.1]
    have ih := ih (xs2 f a (rd a i * rd a j) (d + 1) s n j) (n + (d + 1 : Nat)) (j + 1) h2.2.1 (by omega)
    refine ⟨ih.1, ih.2.1, ?_⟩
    have h3 := ih.2.2
    have h4 := h2.2.2
    rw [tri]
    omega
theorem vs0_eq (f a : List Int) (hf : small f) (ha : small a) : vs0 f a 4 0 0 0 = xval f a ∧ 0 ≤ xval f a ∧ xval f a ≤ 100000000 := by
  have h4 := vs1_eq f a hf ha 0 4 0 0 0 (by omega) (by simp [tri])
  have h3 := vs1_eq f a hf ha 1 3 _ (0 + tri 4) 1 h4.2.1 (by have := h4.2.2; simp [tri] at this ⊢; omega)
  have h2 := vs1_eq f a hf ha 2 2 _ (0 + tri 4 + tri 3) 2 h3.2.1 (by have := h4.2.2; have := h3.2.2; simp [tri] at *; omega)
  have h1 := vs1_eq f a hf ha 3 1 _ (0 + tri 4 + tri 3 + tri 2) 3 h2.2.1 (by have := h4.2.2; have := h3.2.2; have := h2.2.2; simp [tri] at *; omega)
  unfold xval
  simp only [vs0, xs0, vs1_n]
  simp only [Int.zero_add, show (1 : Int) + 1 = 2 from rfl, show (2 : Int) + 1 = 3 from rfl] at *
  rw [h4.1, h3.1, h2.1, h1.1]
  refine ⟨rfl, h1.2.1, ?_⟩
  have a1 := h1.2.2
  have a2 := h2.2.2
  have a3 := h3.2.2
  have a4 := h4.2.2
  simp [tri] at *
  omega
theorem valI_eq {p : Int} {f a : List Int} (hf : small f) (ha : small a) : valI p f a = xval f a % p := by
  unfold valI
  rw [(vs0_eq f a hf ha).1, Int.tmod_eq_emod_of_nonneg (vs0_eq f a hf ha).2.1]
theorem iValue_ev (p : Int) (f a : List Int) (hp : 7 ≤ p ∧ p ≤ 31) (hf : f.length = 20) (ha : a.length = 4) (sf : small f) (sa : small a) : Ev (fun k => impl_valueAt.f k p f a) (xval f a % p) := by
  have h := valueAt_ev p f a (by omega) hf ha
  rwa [valI_eq sf sa] at h

end Go.Proofs.Ytmenehnfgenlpaa.PA
namespace Go.Proofs.Ytmenehnfgenlpaa.PA
open Go.RowKit Go.Proofs.YtmenehnfgenlpaaW.PrintWords Go.Proofs.YtmenehnfgenlpaaW.PrintLast Go.Proofs.YtmenehnfgenlpaaW.PrintMore
set_option linter.unusedVariables false
set_option linter.unusedSimpArgs false

/-- place n of a line -/
def linePl (p : Int) (l : List Int) (n : Int) : List Int := [(rd l 0 + n * rd l 4) % p, (rd l 1 + n * rd l 5) % p, (rd l 2 + n * rd l 6) % p, (rd l 3 + n * rd l 7) % p]
/-- has the form the value 0 at all places of the line? -/
def wholeB (p : Int) (f l : List Int) : Bool := numsB p f 20 && lineB p l && ((List.range p.toNat).all fun n => xval f (linePl p l (n : Int)) % p == 0) && (xval f (l.drop 4) % p == 0)
theorem linePl_nums {p : Int} (hp : primeB p = true) (l : List Int) (n : Int) : numsB p (linePl p l n) 4 = true := by
  have hb := prime_bd hp
  refine numsB_mk hp rfl fun x hx => ?_
  simp only [linePl, List.mem_cons, List.not_mem_nil, or_false] at hx
  rcases hx with rfl | rfl | rfl | rfl <;> exact ⟨Int.emod_nonneg _ (by omega), Int.emod_lt_of_pos _ (by omega)⟩
theorem drop_nums {p : Int} {l : List Int} (hl : numsB p l 8 = true) : numsB p (l.drop 4) 4 = true := by
  obtain ⟨hp, h8, hx⟩ := numsB_prime hl
  exact numsB_mk hp (by simp; omega) fun x h => hx x (List.mem_of_mem_drop h)
theorem drop_rd {l : List Int} (h : l.length = 8) : l.drop 4 = [rd l 4, rd l 5, rd l 6, rd l 7] := by
  match l, h with
  | [_, _, _, _, _, _, _, _], _ => rfl
theorem mul30w {p x y : Int} (hp : p ≤ 31) (h0 : 0 ≤ x) (h1 : x < p) (h2 : 0 ≤ y) (h3 : y < p) : 0 ≤ x * y ∧ x * y ≤ 900 := by
  have h := Int.mul_le_mul (show x ≤ 30 by omega) (show y ≤ 30 by omega) h2 (by omega)
  exact ⟨Int.mul_nonneg h0 h2, by omega⟩
theorem pl_term {p : Int} (hp : primeB p = true) {l : List Int} (hl : numsB p l 8 = true) {n : Int} (hn : 0 ≤ n ∧ n < p) (i j : Int) (hi : 0 ≤ i ∧ i < 8) (hj : 0 ≤ j ∧ j < 8) : Int.tmod (wrap64 ((rd l i) + (wrap64 (n * (rd l j))))) p = (rd l i + n * rd l j) % p := by
  have hb := prime_bd hp
  have h1 := rd_range hl i hi.1 hi.2
  have h2 := rd_range hl j hj.1 hj.2
  have hm := mul30w hb.2 hn.1 hn.2 h2.1 h2.2
  rw [wsm (i := n * rd l j) (by omega) (by omega), wsm (by omega) (by omega), Int.tmod_eq_emod_of_nonneg (by omega)]
theorem w4 : wrap64 (4 + 0) = 4 ∧ wrap64 (4 + 1) = 5 ∧ wrap64 (4 + 2) = 6 ∧ wrap64 (4 + 3) = 7 ∧ wrap64 (0 + 1) = 1 ∧ wrap64 (1 + 1) = 2 ∧ wrap64 (2 + 1) = 3 ∧ wrap64 (3 + 1) = 4 := by unfold wrap64; omega

end Go.Proofs.Ytmenehnfgenlpaa.PA
namespace Go.Proofs.Ytmenehnfgenlpaa.PA
open Go.RowKit Go.Proofs.YtmenehnfgenlpaaW.PrintWords Go.Proofs.YtmenehnfgenlpaaW.PrintLast Go.Proofs.YtmenehnfgenlpaaW.PrintMore
set_option linter.unusedVariables false
set_option linter.unusedSimpArgs false

theorem po_row {p : Int} (hp : primeB p = true) {l : List Int} (hl : numsB p l 8 = true) {out : List (List Int)} {m n : Int} (hn : 0 ≤ n ∧ n < p) (ho : out.length < 1000) {R : List (List Int)}
    (h : Ev (fun k => impl_placesOn.l0 k p l (out ++ [linePl p l n]) m (n + 1)) R) : Ev (fun k => impl_placesOn.l1 k p l out n [] m n 0) R := by
  have hb := prime_bd hp
  have h8 := (numsB_prime hl).2.1
  obtain ⟨a0, a1, a2, a3, b0, b1, b2, b3⟩ := w4
  refine Ev.step (fun k => by rw [impl_placesOn.l1, a0, b0, pl_term hp hl hn 0 4 (by omega) (by omega), if_pos (by omega), if_pos (by omega), if_pos (by omega), if_pos (by omega), if_pos (by omega), if_neg (by omega), if_pos (by simp)]) ?_
  refine Ev.step (fun k => by rw [impl_placesOn.l1, a1, b1, pl_term hp hl hn 1 5 (by omega) (by omega), if_pos (by omega), if_pos (by omega), if_pos (by omega), if_pos (by omega), if_pos (by omega), if_neg (by omega), if_pos (by simp)]) ?_
  refine Ev.step (fun k => by rw [impl_placesOn.l1, a2, b2, pl_term hp hl hn 2 6 (by omega) (by omega), if_pos (by omega), if_pos (by omega), if_pos (by omega), if_pos (by omega), if_pos (by omega), if_neg (by omega), if_pos (by simp)]) ?_
  refine Ev.step (fun k => by rw [impl_placesOn.l1, a3, b3, pl_term hp hl hn 3 7 (by omega) (by omega), if_pos (by omega), if_pos (by omega), if_pos (by omega), if_pos (by omega), if_pos (by omega), if_neg (by omega), if_pos (by simp)]) ?_
  exact Ev.step (fun k => by rw [impl_placesOn.l1, if_neg (by omega), if_pos (by omega), wsm (by omega) (by omega)]; rfl) h
theorem po_all {p : Int} (hp : primeB p = true) {l : List Int} (hl : numsB p l 8 = true) : ∀ (d i : Nat) (out : List (List Int)), ((i + d : Nat) : Int) = p → out.length = i + 1 → Ev (fun k => impl_placesOn.l0 k p l out p (i : Int)) (out ++ (List.range' i d).map fun (n : Nat) => linePl p l (n : Int))
  | 0, i, out, h, ho => by
    refine Ev.step (f := fun _ => some out) (fun k => by rw [impl_placesOn.l0, if_neg (by omega)]) ?_
    simpa using Ev.now out
  | d + 1, i, out, h, ho => by
    have hb := prime_bd hp
    have ih := po_all hp hl d (i + 1) (out ++ [linePl p l (i : Int)]) (by omega) (by simp [ho])
    rw [List.append_assoc] at ih
    rw [List.range'_succ, List.map_cons]
    exact Ev.step (fun k => by rw [impl_placesOn.l0, if_pos (by omega)]) (po_row hp hl (by omega) (by omega) ih)
theorem placesOn_ev {p : Int} (hp : primeB p = true) {l : List Int} (hl : numsB p l 8 = true) : Ev (fun k => impl_placesOn.f k p l) (l.drop 4 :: (List.range p.toNat).map fun (n : Nat) => linePl p l (n : Int)) := by
  unfold impl_placesOn.f
  have hb := prime_bd hp
  have h8 := (numsB_prime hl).2.1
  have h := po_all hp hl p.toNat 0 [l.drop 4] (by omega) rfl
  rw [← List.range_eq_range'] at h
  refine Ev.bind (a := []) (Ev.now _) (Ev.yes (by omega) (Ev.yes (by simp; omega) ?_))
  simpa using h
theorem iw_all {p : Int} (hp : primeB p = true) {f : List Int} (hf : numsB p f 20 = true) (M : List (List Int)) (hM : ∀ r ∈ M, numsB p r 4 = true) (hl : M.length ≤ 1000) : ∀ (d i : Nat), i + d = M.length → Ev (fun k => impl_SurfaceWhole.l0 k p f M (M.length : Int) (i : Int)) ((M.drop i).all fun a => xval f a % p == 0)
  | 0, i, h => by
    refine Ev.step (f := fun _ => some true) (fun k => by rw [impl_SurfaceWhole.l0, if_neg (by omega)]) ?_
    rw [List.drop_eq_nil_of_le (by omega)]; exact Ev.now _
  | d + 1, i, h => by
    have hb := prime_bd hp
    have hi : i < M.length := by omega
    have ih := iw_all hp hf M hM hl d (i + 1) (by omega)
    have hn := hM _ (List.getElem_mem hi)
    have e : rd_L1 M (i : Int) = M[i] := by simp [rd_L1, List.getD_eq_getElem?_getD, hi]
    refine Ev.step (fun k => by rw [impl_SurfaceWhole.l0, if_pos (by omega), if_pos (by omega), if_pos (by omega), e]) (Ev.bind (iValue_ev p f M[i] hb (numsB_prime hf).2.1 (numsB_prime hn).2.1 (small_of hf) (small_of hn)) ?_)
    rw [List.drop_eq_getElem_cons hi, List.all_cons]
    by_cases hz : xval f M[i] % p = 0
    · rw [show (xval f M[i] % p == 0) = true from beq_iff_eq.2 hz, wsm (by omega) (by omega)]
      exact Ev.yes hz ih
    · rw [show (xval f M[i] % p == 0) = false from beq_eq_false_iff_ne.2 hz]
      exact Ev.no hz (Ev.now _)
theorem iWhole_ev (p : Int) (f l : List Int) : Ev (fun k => impl_SurfaceWhole.f k p f l) (wholeB p f l) := by
  unfold impl_SurfaceWhole.f wholeB
  refine Ev.bind (Ev.k (areNumbers_eq p f 20)) ?_
  cases hf : numsB p f 20 with
  | false => exact Ev.no (by simp) (Ev.step (f := fun _ => some false) (fun k => by rw [impl_SurfaceWhole.j0, if_pos (by rfl)]) (Ev.now _))
  | true =>
    have hp := (numsB_prime hf).1
    have hb := prime_bd hp
    refine Ev.yes rfl (Ev.bind (isSpaceLine_ev p l) ?_)
    cases hn : lineB p l with
    | false => exact Ev.step (f := fun _ => some false) (fun k => by rw [impl_SurfaceWhole.j0, if_pos (by rfl)]) (Ev.now _)
    | true =>
      refine Ev.step (fun k => by rw [impl_SurfaceWhole.j0, if_neg (by simp)]) (Ev.bind (placesOn_ev hp (line_nums hn)) ?_)
      have h := iw_all hp hf (l.drop 4 :: (List.range p.toNat).map fun (n : Nat) => linePl p l (n : Int)) (fun r hr => by
        rcases List.mem_cons.1 hr with rfl | hr
        · exact drop_nums (line_nums hn)
        · obtain ⟨n, _, rfl⟩ := List.mem_map.1 hr; exact linePl_nums hp l _) (by simp; omega) _ 0 (Nat.zero_add _)
      have e : ((l.drop 4 :: (List.range p.toNat).map fun (n : Nat) => linePl p l (n : Int)).drop 0).all (fun a => xval f a % p == 0) = (true && true && ((List.range p.toNat).all fun n => xval f (linePl p l (n : Int)) % p == 0) && (xval f (l.drop 4) % p == 0)) := by
        rw [List.drop_zero, List.all_cons, List.all_map, Bool.and_comm]
        rfl
      rw [e] at h
      exact h

end Go.Proofs.Ytmenehnfgenlpaa.PA
namespace Go.Proofs.Ytmenehnfgenlpaa.PA
open Go.RowKit Go.Proofs.YtmenehnfgenlpaaW.PrintWords Go.Proofs.YtmenehnfgenlpaaW.PrintLast Go.Proofs.YtmenehnfgenlpaaW.PrintMore
set_option linter.unusedVariables false
set_option linter.unusedSimpArgs false

def cubeF : List Int := [1, 0, 0, 0, 0, 0, 0, 0, 0, 0, 1, 0, 0, 0, 0, 0, 1, 0, 0, 1]
theorem iCubeForm_table : ∀ p ∈ ([7, 13, 19, 31] : List Int), impl_CubeForm.f 60 p = some (cubeF, true) := by decide +kernel
theorem lines_whole : ∀ p ∈ ([7, 13, 19, 31] : List Int), ∀ k ∈ List.range 27, wholeB p cubeF (lineC p (k : Int)) = true := by decide +kernel
/-- no two of the lists are the same -/
def allApart : List (List Int) → Bool
  | [] => true
  | x :: l => l.all (fun y => decide (x ≠ y)) && allApart l
theorem lines_apart : ∀ p ∈ ([7, 13, 19, 31] : List Int), allApart ((List.range 27).map fun (k : Nat) => lineC p (k : Int)) = true := by decide +kernel
theorem apart_get : ∀ (l : List (List Int)), allApart l = true → ∀ i j (hi : i < l.length) (hj : j < l.length), i < j → l[i] ≠ l[j]
  | x :: l, h, 0, j + 1, hi, hj, _ => by
    rw [allApart, Bool.and_eq_true] at h
    have := List.all_eq_true.1 h.1 (l[j]'(by simpa using hj)) (List.getElem_mem _)
    simpa using this
  | x :: l, h, i + 1, j + 1, hi, hj, hij => by
    rw [allApart, Bool.and_eq_true] at h
    simpa using apart_get l h.2 i j (by simpa using hi) (by simpa using hj) (by omega)
theorem line_ne {p : Int} (hp : p = 7 ∨ p = 13 ∨ p = 19 ∨ p = 31) {i j : Int} (i0 : 0 ≤ i) (i1 : i < 27) (j0 : 0 ≤ j) (j1 : j < 27) (hne : i ≠ j) : lineC p i ≠ lineC p j := by
  have h := lines_apart p (by simp; omega)
  have key : ∀ a b : Nat, a < 27 → b < 27 → a < b → lineC p (a : Int) ≠ lineC p (b : Int) := fun a b ha hb hab => by
    have := apart_get _ h a b (by simpa using ha) (by simpa using hb) hab
    simpa using this
  obtain ⟨a, rfl⟩ := Int.eq_ofNat_of_zero_le i0
  obtain ⟨b, rfl⟩ := Int.eq_ofNat_of_zero_le j0
  rcases Nat.lt_or_gt_of_ne (show a ≠ b by omega) with h1 | h1
  · exact key a b (by omega) (by omega) h1
  · exact (key b a (by omega) (by omega) h1).symm
theorem cubes_l {p n : Int} (hp : p = 7 ∨ p = 13 ∨ p = 19 ∨ p = 31) (hr : rootsT p ≠ []) (n0 : 0 ≤ n) (n1 : n < 27) : ∀ (d i : Nat), i + d = 27 → Ev (fun k => laws_FnCubeLine.l0 k p n (lineC p n) cubeF true (i : Int)) true
  | 0, i, e => by
    have hw := lines_whole p (by simp; omega) n.toNat (by simp; omega)
    rw [show ((n.toNat : Nat) : Int) = n by omega] at hw
    have hl : lineB p (lineC p n) = true := by
      rw [wholeB, Bool.and_eq_true, Bool.and_eq_true, Bool.and_eq_true] at hw; exact hw.1.1.2
    have h1 := iSpace_ev p (lineC p n)
    have h2 := iWhole_ev p cubeF (lineC p n)
    rw [hl] at h1
    rw [hw] at h2
    refine Ev.step (fun k => by rw [laws_FnCubeLine.l0, if_neg (by omega), if_pos rfl]) ?_
    exact Ev.bind h1 (Ev.yes rfl (Ev.bind h2 (Ev.now _)))
  | d + 1, i, e => by
    have ih := cubes_l hp hr n0 n1 d (i + 1) (by omega)
    have hi := iCubeLine_ev p (i : Int)
    rw [clP, if_pos ⟨hr, by omega, by omega⟩] at hi
    refine Ev.step (fun k => by rw [laws_FnCubeLine.l0, if_pos (by omega)]) (Ev.bind hi (Ev.yes rfl ?_))
    by_cases hin : (i : Int) = n
    · refine Ev.yes hin ?_
      rw [wsm (by omega) (by omega)]
      simpa using ih
    · have hl8 := lineC_len hp (k := (i : Int)) (by omega) (by omega)
      refine Ev.no hin (Ev.bind (sameInts_ev _ _ (by show (lineC p (i : Int)).length ≤ _; omega)) ?_)
      rw [decide_eq_false (line_ne hp (by omega) (by omega) n0 n1 hin)]
      refine Ev.no (by simp) ?_
      rw [wsm (by omega) (by omega)]
      simpa using ih
theorem FnCubeLine_ev (l : List Int) (h : ∀ x ∈ l, (Lit.int .u8 x).wf = true) : Ev (fun k => laws_FnCubeLine.f k l) true := by
  unfold laws_FnCubeLine.f
  refine Ev.ite (fun _ => Ev.now _) (fun hl => ?_)
  obtain ⟨p, n, hd, _, _⟩ := l92Cube_ev l h
  refine Ev.bind (a := (p, n)) (by unfold spec_DrawCubeLine.f; exact Ev.bind hd (Ev.now _)) (Ev.bind (iCubeLine_ev p n) (Ev.bind (sCubeLine_ev p n) (Ev.no (by simp) ?_)))
  by_cases hc : rootsT p ≠ [] ∧ 0 ≤ n ∧ n < 27
  · rcases rootsT_cases p with hp | hp
    · exact absurd hp hc.1
    · have hl8 := lineC_len hp hc.2.1 hc.2.2
      rw [clP, if_pos hc]
      refine Ev.bind (sameInts_ev (lineC p n) (lineC p n) (by omega)) ?_
      rw [decide_eq_true rfl]
      refine Ev.yes rfl (Ev.step (fun k => by rw [laws_FnCubeLine.j0, if_neg (by simp)]) (Ev.bind (a := (cubeF, true)) (Ev.of (impl_CubeForm.mono p) (iCubeForm_table p (by simp; omega))) ?_))
      exact cubes_l hp hc.1 hc.2.1 hc.2.2 27 0 (by omega)
  · rw [clP, if_neg hc]
    refine Ev.bind (sameInts_ev [] [] (by simp)) ?_
    rw [decide_eq_true rfl]
    exact Ev.yes rfl (Ev.step (f := fun k => (laws_sameInts.f k [] []).bind fun t => some t) (fun k => by rw [laws_FnCubeLine.j0, if_pos (by rfl), if_pos (by rfl)]) (Ev.bind (sameInts_ev [] [] (by simp)) (Ev.now _)))

end Go.Proofs.Ytmenehnfgenlpaa.PA

namespace Go.Proofs.Ytmenehnfgenlpaa.Pure
open Go.RowKit Go.Proofs.Ytmenehnfgenlpaa.PA Go.Proofs.YtmenehnfgenlpaaW.PrintWords Go.Proofs.YtmenehnfgenlpaaW.PrintLast
theorem FnCubeLine : laws_FnCubeLine.Pure := by
  intro l
  intros
  first | exact (FnCubeLine_ev l).rounds | exact (FnCubeLine_ev l (by assumption)).rounds
end Go.Proofs.Ytmenehnfgenlpaa.Pure
