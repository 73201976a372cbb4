/- Plain laws of what the printed functions compute. No conditions beside those that each states. -/
import Derived.Test.YtdgopdbmbaiddaaLBase
import Derived.Test.YtdgopdbmbaiddaaLPrim
import Derived.Test.YtdgopdbmbaiddaaPAx10
import Derived.Test.YtdgopdbmbaiddaaPAx2
import Derived.Test.YtdgopdbmbaiddaaPAx7
import Derived.Test.YtdgopdbmbaiddaaPAx8
import Derived.Test.YtdgopdbmbaiddaaWMore
namespace Go.Proofs.Ytdgopdbmbaiddaa.PA
open Go.RowKit Go.Proofs.YtdgopdbmbaiddaaW.PrintWords Go.Proofs.YtdgopdbmbaiddaaW.PrintLast Go.Proofs.YtdgopdbmbaiddaaW.PrintMore
set_option linter.unusedVariables false
set_option linter.unusedSimpArgs false

/-- the inverse modulo a prime; 0 of 0 -/
def invP (p x : Int) : Int := (spec_l4Turned.f 40 p x).getD 0
theorem invP_table : ∀ p ∈ ([7, 11, 13, 17, 19, 23, 29, 31] : List Int), ∀ x ∈ List.range 31, (x : Int) < p → spec_l4Turned.f 40 p (x : Int) = some (invP p (x : Int)) ∧ 0 ≤ invP p (x : Int) ∧ invP p (x : Int) < p ∧ ((x : Int) ≠ 0 → ((x : Int) * invP p (x : Int)) % p = 1) ∧ ((x : Int) = 0 → invP p (x : Int) = 0) := by decide +kernel
theorem invP_spec {p : Int} (hp : primeB p = true) {x : Int} (h0 : 0 ≤ x) (h1 : x < p) : spec_l4Turned.f 40 p x = some (invP p x) ∧ 0 ≤ invP p x ∧ invP p x < p ∧ (x ≠ 0 → (x * invP p x) % p = 1) ∧ (x = 0 → invP p x = 0) := by
  obtain ⟨y, rfl⟩ := Int.eq_ofNat_of_zero_le h0
  have hb := prime_bd hp
  refine invP_table p ?_ y (List.mem_range.2 (by omega)) h1
  have := primeB_cases hp
  simpa using this
theorem turned_ev {p : Int} (hp : primeB p = true) {x : Int} (h0 : 0 ≤ x) (h1 : x < p) : Ev (fun k => spec_l4Turned.f k p x) (invP p x) := Ev.of (spec_l4Turned.mono p x) (invP_spec hp h0 h1).1
theorem invP_one {p : Int} (hp : primeB p = true) : invP p 1 = 1 := by
  have hb := prime_bd hp
  obtain ⟨_, h2, h3, h4, _⟩ := invP_spec hp (x := 1) (by omega) (by omega)
  have := h4 (by omega)
  rw [Int.one_mul, Int.emod_eq_of_lt h2 h3] at this
  exact this
theorem invP_ne {p : Int} (hp : primeB p = true) {x : Int} (h0 : 0 ≤ x) (h1 : x < p) (hx : x ≠ 0) : invP p x ≠ 0 := by
  intro e
  have := (invP_spec hp h0 h1).2.2.2.1 hx
  rw [e] at this
  simp at this
/-- the first number that is not 0 (0 if there is none) -/
def headP (l : List Int) : Int := (l.find? (fun x => x != 0)).getD 0
/-- a row divided by its first number that is not 0 -/
def rowP (p : Int) (l : List Int) : List Int := l.map fun x => x * invP p (headP l) % p
theorem headP_cons (x : Int) (l : List Int) : headP (x :: l) = if x = 0 then headP l else x := by
  unfold headP
  by_cases h : x = 0
  · simp [h]
  · simp [h]
theorem headP_range {p : Int} {l : List Int} (hr : ∀ x ∈ l, 0 ≤ x ∧ x < p) (hp : 0 < p) : 0 ≤ headP l ∧ headP l < p := by
  unfold headP
  cases h : l.find? (fun x => x != 0) with
  | none => simp; omega
  | some y => exact hr y (List.mem_of_find?_eq_some h)
theorem mul30 {p x y : Int} (hp : p ≤ 31) (h0 : 0 ≤ x) (h1 : x < p) (h2 : 0 ≤ y) (h3 : y < p) : 0 ≤ x * y ∧ x * y ≤ 900 := by
  have h := Int.mul_le_mul (show x ≤ 30 by omega) (show y ≤ 30 by omega) h2 (by omega)
  exact ⟨Int.mul_nonneg h0 h2, by omega⟩
theorem l4Row_l {p : Int} (hp : primeB p = true) (l : List Int) (hr : ∀ x ∈ l, 0 ≤ x ∧ x < p) (hl : l.length ≤ 1000) : ∀ (d i : Nat) (acc : List Int) (n : Int), i + d = l.length → acc.length = i → (n = 0 ∨ 0 ≤ n ∧ n < p) →
    Ev (fun k => spec_l4Row.l0 k p l acc n (i : Int)) (acc ++ (l.drop i).map fun x => x * (if n = 0 then invP p (headP (l.drop i)) else n) % p)
  | 0, i, acc, n, h, ha, hn => by
    refine Ev.step (f := fun _ => some acc) (fun k => ?_) ?_
    · rw [spec_l4Row.l0, if_neg (by omega)]
    · rw [List.drop_eq_nil_of_le (by omega)]; simpa using Ev.now acc
  | d + 1, i, acc, n, h, ha, hn => by
    have hb := prime_bd hp
    have hi : i < l.length := by omega
    have hx := hr _ (List.getElem_mem hi)
    rw [← rd_at l i hi] at hx
    rw [rd_drop l i hi]
    by_cases h0 : n = 0
    · have hv := invP_spec hp hx.1 hx.2
      have hm := mul30 hb.2 hx.1 hx.2 hv.2.1 hv.2.2.1
      refine Ev.step (f := fun k => (spec_l4Turned.f k p (rd l (i : Int))).bind fun t => spec_l4Row.l0 k p l (acc ++ [Int.tmod (wrap64 ((rd l (i : Int)) * t)) p]) t ((i + 1 : Nat) : Int)) (fun k => ?_) (Ev.bind (turned_ev hp hx.1 hx.2) ?_)
      · rw [spec_l4Row.l0, if_pos (by omega), if_pos h0, if_pos (by omega)]
        congr 1
        funext t
        rw [if_neg (by omega), if_pos (by omega), wsm (i := (i : Int) + 1) (by omega) (by omega)]
        rfl
      · have ih := l4Row_l hp l hr hl d (i + 1) (acc ++ [Int.tmod (wrap64 ((rd l (i : Int)) * invP p (rd l (i : Int)))) p]) (invP p (rd l (i : Int))) (by omega) (by simp [ha]) (.inr ⟨hv.2.1, hv.2.2.1⟩)
        rw [wsm (by omega) (by omega), Int.tmod_eq_emod_of_nonneg hm.1] at ih ⊢
        rw [List.append_assoc] at ih
        rw [headP_cons, if_pos h0]
        by_cases hz : rd l (i : Int) = 0
        · rw [if_pos hz]
          rw [if_pos (hv.2.2.2.2 hz)] at ih
          simp only [hz, Int.zero_mul, List.map_cons] at ih ⊢
          exact ih
        · rw [if_neg hz]
          rw [if_neg (invP_ne hp hx.1 hx.2 hz)] at ih
          simpa using ih
    · have hn' : 0 ≤ n ∧ n < p := by rcases hn with h | h; exact absurd h h0; exact h
      have hm := mul30 hb.2 hx.1 hx.2 hn'.1 hn'.2
      refine Ev.step (f := fun k => spec_l4Row.l0 k p l (acc ++ [Int.tmod (wrap64 ((rd l (i : Int)) * n)) p]) n ((i + 1 : Nat) : Int)) (fun k => ?_) ?_
      · rw [spec_l4Row.l0, if_pos (by omega), if_neg h0, if_pos (by omega), if_neg (by omega), if_pos (by omega), wsm (i := (i : Int) + 1) (by omega) (by omega)]
        rfl
      · have ih := l4Row_l hp l hr hl d (i + 1) (acc ++ [Int.tmod (wrap64 ((rd l (i : Int)) * n)) p]) n (by omega) (by simp [ha]) hn
        rw [wsm (by omega) (by omega), Int.tmod_eq_emod_of_nonneg hm.1] at ih ⊢
        rw [if_neg h0] at ih ⊢
        simpa using ih
theorem l4Row_ev {p : Int} (hp : primeB p = true) (l : List Int) (hr : ∀ x ∈ l, 0 ≤ x ∧ x < p) (hl : l.length ≤ 1000) : Ev (fun k => spec_l4Row.f k p l) (rowP p l) := by
  have := l4Row_l hp l hr hl l.length 0 [] 0 (by omega) rfl (.inl rfl)
  unfold spec_l4Row.f
  simpa [rowP] using this
theorem l4Zero_l (l : List Int) (hl : l.length ≤ 1000000) : ∀ (d i : Nat), i + d = l.length → Ev (fun k => spec_l4Zero.l0 k l (i : Int)) ((l.drop i).all fun x => x == 0)
  | 0, i, h => by
    refine Ev.step (f := fun _ => some true) (fun k => ?_) ?_
    · rw [spec_l4Zero.l0, if_neg (by omega)]
    · rw [List.drop_eq_nil_of_le (by omega)]; exact Ev.now _
  | d + 1, i, h => by
    have ih := l4Zero_l l hl d (i + 1) (by omega)
    rw [rd_drop l i (by omega), List.all_cons]
    by_cases hz : rd l (i : Int) = 0
    · refine Ev.step (f := fun k => spec_l4Zero.l0 k l ((i + 1 : Nat) : Int)) (fun k => ?_) ?_
      · rw [spec_l4Zero.l0, if_pos (by omega), if_pos (by omega), if_pos hz, wsm (by omega) (by omega)]; rfl
      · simpa [hz] using ih
    · refine Ev.step (f := fun _ => some false) (fun k => ?_) ?_
      · rw [spec_l4Zero.l0, if_pos (by omega), if_pos (by omega), if_neg hz]
      · rw [show (rd l (i : Int) == 0) = false from beq_eq_false_iff_ne.2 hz]
        exact Ev.now false
theorem l4Zero_ev (l : List Int) (hl : l.length ≤ 1000000) : Ev (fun k => spec_l4Zero.f k l) (l.all fun x => x == 0) := by
  unfold spec_l4Zero.f
  simpa using l4Zero_l l hl l.length 0 (by omega)
theorem rowP_self {p : Int} (hp : primeB p = true) {l : List Int} (hr : ∀ x ∈ l, 0 ≤ x ∧ x < p) : (!(l.all fun x => x == 0) && decide (rowP p l = l)) = monicB l := by
  have hb := prime_bd hp
  unfold monicB rowP headP
  cases h : l.find? (fun x => x != 0) with
  | none =>
    have : (l.all fun x => x == 0) = true := by
      rw [List.all_eq_true]
      intro x hx
      have := List.find?_eq_none.1 h x hx
      simpa using this
    rw [this]; rfl
  | some y =>
    have hy := List.mem_of_find?_eq_some h
    have hy0 : y ≠ 0 := by simpa using List.find?_some h
    have hall : (l.all fun x => x == 0) = false := by
      rw [Bool.eq_false_iff]
      intro e
      exact hy0 (by simpa using List.all_eq_true.1 e y hy)
    rw [hall]
    simp only [Bool.not_false, Bool.true_and, Option.getD_some]
    rw [Bool.eq_iff_iff, decide_eq_true_iff, beq_iff_eq]
    constructor
    · intro e
      have e1 : y * invP p y % p = y := by
        have h2 : ∀ (m : List Int), (m.map fun x => x * invP p y % p) = m → y ∈ m → y * invP p y % p = y := by
          intro m
          induction m with
          | nil => intro _ h; simp at h
          | cons z m ih =>
            intro e h
            rw [List.map_cons] at e
            injection e with e1 e2
            rcases List.mem_cons.1 h with rfl | h
            · exact e1
            · exact ih e2 h
        exact h2 l e hy
      have := (invP_spec hp (hr y hy).1 (hr y hy).2).2.2.2.1 hy0
      rw [this] at e1
      rw [← e1]
    · intro e
      injection e with e
      subst e
      rw [invP_one hp]
      refine (List.map_congr_left (g := id) fun x hx => ?_).trans (List.map_id _)
      rw [Int.mul_one, Int.emod_eq_of_lt (hr x hx).1 (hr x hx).2]; rfl
/-- a place of space -/
def placeB (p : Int) (a : List Int) : Bool := numsB p a 4 && monicB a
theorem isPlace_eq (p : Int) (a : List Int) : impl_isPlace.f p a = some (placeB p a) := by
  unfold impl_isPlace.f placeB
  rw [show (4 : Int) = ((4 : Nat) : Int) from rfl, areNumbers_eq]
  cases numsB p a 4 <;> rfl
theorem four_same (p : Int) (l r : List Int) (hl : l.length = 4) (hr : r.length = 4) (z : Bool) : (if z = true then (some false) else (if 0 < (r.length : Int) then (if 0 < (l.length : Int) then (if (rd r 0) = (rd l 0) then (if 1 < (r.length : Int) then (if 1 < (l.length : Int) then (if (rd r 1) = (rd l 1) then (if 2 < (r.length : Int) then (if 2 < (l.length : Int) then (if (rd r 2) = (rd l 2) then (if 3 < (r.length : Int) then (if 3 < (l.length : Int) then (some ((rd r 3) == (rd l 3))) else (none)) else (none)) else (some false)) else (none)) else (none)) else (some false)) else (none)) else (none)) else (some false)) else (none)) else (none))) = some (!z && decide (r = l)) := by
  match l, hl, r, hr with
  | [a, b, c, d], _, [a', b', c', d'], _ =>
    cases z
    · simp only [List.length_cons, List.length_nil, rd, Int.toNat_zero, List.getD_cons_zero]
      by_cases h1 : a' = a
      · by_cases h2 : b' = b
        · by_cases h3 : c' = c
          · by_cases h4 : d' = d <;> simp [h1, h2, h3, h4]
          · simp [h1, h2, h3]
        · simp [h1, h2]
      · simp [h1]
    · rfl
theorem PlaceIn_l (p : Int) (l : List Int) (hp : primeB p = true) (hl : l.length = 4) : ∀ (d : Nat) (i : Nat), i + d = 4 → (∀ x ∈ l.take i, 0 ≤ x ∧ x < p) → Ev (fun k => spec_PlaceIn.l0 k p l (i : Int)) (((l.drop i).all fun x => decide (0 ≤ x) && decide (x < p)) && monicB l)
  | 0, i, h, ht => by
    have hr : ∀ x ∈ l, 0 ≤ x ∧ x < p := by rwa [List.take_of_length_le (by omega)] at ht
    rw [List.drop_eq_nil_of_le (by omega)]
    refine Ev.step (f := fun k => (spec_l4Row.f k p l).bind fun r => (spec_l4Zero.f k l).bind fun z => (if z = true then (some false) else (if 0 < (r.length : Int) then (if 0 < (l.length : Int) then (if (rd r 0) = (rd l 0) then (if 1 < (r.length : Int) then (if 1 < (l.length : Int) then (if (rd r 1) = (rd l 1) then (if 2 < (r.length : Int) then (if 2 < (l.length : Int) then (if (rd r 2) = (rd l 2) then (if 3 < (r.length : Int) then (if 3 < (l.length : Int) then (some ((rd r 3) == (rd l 3))) else (none)) else (none)) else (some false)) else (none)) else (none)) else (some false)) else (none)) else (none)) else (some false)) else (none)) else (none)))) (fun k => ?_) ?_
    · rw [spec_PlaceIn.l0, if_neg (by omega)]
    · refine Ev.bind (l4Row_ev hp l hr (by omega)) (Ev.bind (l4Zero_ev l (by omega)) ?_)
      rw [four_same p l (rowP p l) hl (by simp [rowP, hl]), rowP_self hp hr]
      exact Ev.now _
  | d + 1, i, h, ht => by
    have hb := prime_bd hp
    rw [rd_drop l i (by omega), List.all_cons]
    cases hc : (decide (0 ≤ rd l (i : Int)) && decide (rd l (i : Int) < p))
    · refine Ev.step (f := fun _ => some false) (fun k => ?_) ?_
      · rw [spec_PlaceIn.l0, if_pos (by omega), if_pos (by omega), if_pos (by omega), l6In_eq, all_low hp, hc]; rfl
      · exact Ev.now _
    · refine Ev.step (f := fun k => spec_PlaceIn.l0 k p l ((i + 1 : Nat) : Int)) (fun k => ?_) ?_
      · rw [spec_PlaceIn.l0, if_pos (by omega), if_pos (by omega), if_pos (by omega), l6In_eq, all_low hp, hc, wsm (by omega) (by omega)]
        simp
      · have := PlaceIn_l p l hp hl d (i + 1) (by omega) (fun x hx => by
          rw [List.take_add_one, List.mem_append] at hx
          rcases hx with hx | hx
          · exact ht x hx
          · rw [List.getElem?_eq_getElem (by omega), ← rd_at l i (by omega)] at hx
            simp at hx
            subst hx
            rw [Bool.and_eq_true] at hc
            exact ⟨of_decide_eq_true hc.1, of_decide_eq_true hc.2⟩)
        simpa using this
theorem PlaceIn_ev (p : Int) (l : List Int) : Ev (fun k => spec_PlaceIn.f k p l) (placeB p l) := by
  unfold spec_PlaceIn.f placeB
  refine Ev.bind (Ev.k (PrimeIn_eq p)) ?_
  cases hp : primeB p
  · refine Ev.no (by simp) (Ev.step (f := fun _ => some false) (fun k => ?_) ?_)
    · rw [spec_PlaceIn.j0, if_pos rfl]
    · rw [show numsB p l 4 = false from by simp [numsB, hp]]; exact Ev.now _
  · refine Ev.yes rfl ?_
    by_cases hl : l.length = 4
    · refine Ev.step (f := fun k => spec_PlaceIn.l0 k p l ((0 : Nat) : Int)) (fun k => ?_) ?_
      · rw [spec_PlaceIn.j0, if_neg (by simp [hl])]; rfl
      · have := PlaceIn_l p l hp hl 4 0 (by omega) (by simp)
        rw [List.drop_zero] at this
        rwa [show numsB p l 4 = (l.all fun x => decide (0 ≤ x) && decide (x < p)) from by simp [numsB, hp, hl]]
    · refine Ev.step (f := fun _ => some false) (fun k => ?_) ?_
      · rw [spec_PlaceIn.j0, if_pos (by simp; omega)]
      · rw [show numsB p l 4 = false from by simp [numsB, hl]]; exact Ev.now _

end Go.Proofs.Ytdgopdbmbaiddaa.PA
