/- For every code: the image of the drawn point is the reference's, its numbers are as the values of the base, and it is a place of the surface. No conditions. -/
import Derived.Test.YtmgbpmihbljngaaWMore
import Derived.Test.YtmgbpmihbljngaaPAx12
import Derived.Test.YtmgbpmihbljngaaPAx14
import Derived.Test.YtmgbpmihbljngaaPAx1
import Derived.Test.YtmgbpmihbljngaaPAx22
import Derived.Test.YtmgbpmihbljngaaPAx15
import Derived.Test.YtmgbpmihbljngaaPAx16
import Derived.Test.YtmgbpmihbljngaaPAx19
import Derived.Test.YtmgbpmihbljngaaPAx23
import Derived.Test.YtmgbpmihbljngaaPAx21
import Derived.Test.YtmgbpmihbljngaaPAx18
import Derived.Test.YtmgbpmihbljngaaPAx20
import Derived.Test.YtmgbpmihbljngaaPAx17
import Derived.Test.YtmgbpmihbljngaaPAx8
import Derived.Test.YtmgbpmihbljngaaPAx10
import Derived.Test.YtmgbpmihbljngaaPAx24
namespace Go.Proofs.Ytmgbpmihbljngaa.PA
open Go.RowKit Go.Proofs.YtmgbpmihbljngaaW.PrintWords Go.Proofs.YtmgbpmihbljngaaW.PrintLast Go.Proofs.YtmgbpmihbljngaaW.PrintMore
set_option linter.unusedVariables false
set_option linter.unusedSimpArgs false
theorem wsm {i : Int} (h0 : -1000000000000000000 ≤ i) (h : i ≤ 1000000000000000000) : wrap64 i = i := by unfold wrap64; omega
theorem Ev.none_ {α : Type} {g : Nat → Option α} {r r' : α} (h : Ev g r) (h' : Ev g r') : r = r' := by
  obtain ⟨a, ha⟩ := h
  obtain ⟨b, hb⟩ := h'
  have h1 := ha (max a b) (Nat.le_max_left _ _)
  have h2 := hb (max a b) (Nat.le_max_right _ _)
  exact Option.some.inj (h1.symm.trans h2)
theorem Ev.k {α : Type} {x : Option α} {r : α} (h : x = some r) : Ev (fun _ => x) r := ⟨0, fun _ _ => h⟩
theorem Ev.ite {α : Type} {c : Prop} [Decidable c] {g f : Nat → Option α} {r : α} (h1 : c → Ev g r) (h2 : ¬ c → Ev f r) : Ev (fun k => if c then g k else f k) r := by
  by_cases h : c
  · exact (h1 h).congr (fun k => if_pos h)
  · exact (h2 h).congr (fun k => if_neg h)
theorem Ev.yes {α : Type} {c : Prop} [Decidable c] {g f : Nat → Option α} {r : α} (h : c) (h1 : Ev g r) : Ev (fun k => if c then g k else f k) r := h1.congr (fun k => if_pos h)
theorem Ev.no {α : Type} {c : Prop} [Decidable c] {g f : Nat → Option α} {r : α} (h : ¬ c) (h1 : Ev f r) : Ev (fun k => if c then g k else f k) r := h1.congr (fun k => if_neg h)
theorem Zu (l : List Int) (j : Nat) (h : j < l.length) : rd l (j : Int) = l[j] := by simp [rd, List.getD_eq_getElem?_getD, h]
theorem qc6 (l : List Int) (j : Nat) (h : j < l.length) : l.drop j = rd l (j : Int) :: l.drop (j + 1) := by rw [Zu l j h, List.drop_eq_getElem_cons h]
end Go.Proofs.Ytmgbpmihbljngaa.PA
namespace Go.Proofs.Ytmgbpmihbljngaa.PA
open Go.RowKit Go.Proofs.YtmgbpmihbljngaaW.PrintWords Go.Proofs.YtmgbpmihbljngaaW.PrintLast Go.Proofs.YtmgbpmihbljngaaW.PrintMore
set_option linter.unusedVariables false
set_option linter.unusedSimpArgs false
theorem qcp (p : Int) : Qc.f p = some (zh p) := by
  unfold Qc.f zh
  repeat' split
  all_goals first | (subst_vars; rfl) | (congr 1; symm; rw [decide_eq_true_iff]; omega) | (congr 1; symm; rw [decide_eq_false_iff_not]; omega)
theorem Jw {p : Int} (h : zh p = true) : p = 7 ∨ p = 11 ∨ p = 13 ∨ p = 17 ∨ p = 19 ∨ p = 23 ∨ p = 29 ∨ p = 31 := of_decide_eq_true h
def Jp (p : Int) (l : List Int) (n : Nat) : Bool := zh p && decide (l.length = n) && l.all fun x => decide (0 ≤ x) && decide (x < p)
theorem qan (p : Int) (l : List Int) (n : Nat) : jh.f p l (n : Int) = some (Jp p l n) := by
  unfold jh.f Jp
  congr 3
  rw [Bool.eq_iff_iff, decide_eq_true_iff, decide_eq_true_iff]
  omega
theorem Z4 {p : Int} {l : List Int} {n : Nat} (h : Jp p l n = true) : zh p = true ∧ l.length = n ∧ ∀ x ∈ l, 0 ≤ x ∧ x < p := by
  unfold Jp at h
  rw [Bool.and_eq_true, Bool.and_eq_true] at h
  refine ⟨h.1.1, of_decide_eq_true h.1.2, fun x hx => ?_⟩
  have := List.all_eq_true.1 h.2 x hx
  rw [Bool.and_eq_true] at this
  exact ⟨of_decide_eq_true this.1, of_decide_eq_true this.2⟩
theorem qdd {p : Int} {l : List Int} {n : Nat} (h1 : zh p = true) (h2 : l.length = n) (h3 : ∀ x ∈ l, 0 ≤ x ∧ x < p) : Jp p l n = true := by
  unfold Jp
  rw [h1, decide_eq_true h2, Bool.true_and, Bool.true_and, List.all_eq_true]
  intro x hx
  rw [decide_eq_true (h3 x hx).1, decide_eq_true (h3 x hx).2]; rfl
theorem z5 {p : Int} (h : zh p = true) : 7 ≤ p ∧ p ≤ 31 := by have := Jw h; omega
end Go.Proofs.Ytmgbpmihbljngaa.PA
namespace Go.Proofs.Ytmgbpmihbljngaa.PA
open Go.RowKit Go.Proofs.YtmgbpmihbljngaaW.PrintWords Go.Proofs.YtmgbpmihbljngaaW.PrintLast Go.Proofs.YtmgbpmihbljngaaW.PrintMore
set_option linter.unusedVariables false
set_option linter.unusedSimpArgs false
def qcj (l : List Int) : Bool := (l.find? (fun x => x != 0)) == some 1
def qcs (p : Int) (a : List Int) : Bool := Jp p a 4 && qcj a
end Go.Proofs.Ytmgbpmihbljngaa.PA
namespace Go.Proofs.Ytmgbpmihbljngaa.PA
open Go.RowKit Go.Proofs.YtmgbpmihbljngaaW.PrintWords Go.Proofs.YtmgbpmihbljngaaW.PrintLast Go.Proofs.YtmgbpmihbljngaaW.PrintMore
set_option linter.unusedVariables false
set_option linter.unusedSimpArgs false
def invP (p x : Int) : Int := (zp.f 40 p x).getD 0
theorem qj8 : ∀ p ∈ ([7, 11, 13, 17, 19, 23, 29, 31] : List Int), ∀ x ∈ List.range 31, (x : Int) < p → zp.f 40 p (x : Int) = some (invP p (x : Int)) ∧ 0 ≤ invP p (x : Int) ∧ invP p (x : Int) < p ∧ ((x : Int) ≠ 0 → ((x : Int) * invP p (x : Int)) % p = 1) ∧ ((x : Int) = 0 → invP p (x : Int) = 0) := by decide +kernel
theorem Q7 {p : Int} (hp : zh p = true) {x : Int} (h0 : 0 ≤ x) (h1 : x < p) : zp.f 40 p x = some (invP p x) ∧ 0 ≤ invP p x ∧ invP p x < p ∧ (x ≠ 0 → (x * invP p x) % p = 1) ∧ (x = 0 → invP p x = 0) := by
  obtain ⟨y, rfl⟩ := Int.eq_ofNat_of_zero_le h0
  have hb := z5 hp
  refine qj8 p ?_ y (List.mem_range.2 (by omega)) h1
  have := Jw hp
  simpa using this
theorem qmj {p : Int} (hp : zh p = true) {x : Int} (h0 : 0 ≤ x) (h1 : x < p) : Ev (fun k => zp.f k p x) (invP p x) := Ev.of (zp.mono p x) (Q7 hp h0 h1).1
theorem qny {p : Int} (hp : zh p = true) : invP p 1 = 1 := by
  have hb := z5 hp
  obtain ⟨_, h2, h3, h4, _⟩ := Q7 hp (x := 1) (by omega) (by omega)
  have := h4 (by omega)
  rw [Int.one_mul, Int.emod_eq_of_lt h2 h3] at this
  exact this
theorem qon {p : Int} (hp : zh p = true) {x : Int} (h0 : 0 ≤ x) (h1 : x < p) (hx : x ≠ 0) : invP p x ≠ 0 := by
  intro e
  have := (Q7 hp h0 h1).2.2.2.1 hx
  rw [e] at this
  simp at this
end Go.Proofs.Ytmgbpmihbljngaa.PA
namespace Go.Proofs.Ytmgbpmihbljngaa.PA
open Go.RowKit Go.Proofs.YtmgbpmihbljngaaW.PrintWords Go.Proofs.YtmgbpmihbljngaaW.PrintLast Go.Proofs.YtmgbpmihbljngaaW.PrintMore
set_option linter.unusedVariables false
set_option linter.unusedSimpArgs false
def qbf (l : List Int) : Int := (l.find? (fun x => x != 0)).getD 0
def rowP (p : Int) (l : List Int) : List Int := l.map fun x => x * invP p (qbf l) % p
theorem qcr (x : Int) (l : List Int) : qbf (x :: l) = if x = 0 then qbf l else x := by
  unfold qbf
  by_cases h : x = 0
  · simp [h]
  · simp [h]
theorem qfs {p x y : Int} (hp : p ≤ 31) (h0 : 0 ≤ x) (h1 : x < p) (h2 : 0 ≤ y) (h3 : y < p) : 0 ≤ x * y ∧ x * y ≤ 900 := by
  have h := Int.mul_le_mul (show x ≤ 30 by omega) (show y ≤ 30 by omega) h2 (by omega)
  exact ⟨Int.mul_nonneg h0 h2, by omega⟩
theorem qhq {p : Int} (hp : zh p = true) (l : List Int) (hr : ∀ x ∈ l, 0 ≤ x ∧ x < p) (hl : l.length ≤ 1000) : ∀ (d i : Nat) (acc : List Int) (n : Int), i + d = l.length → acc.length = i → (n = 0 ∨ 0 ≤ n ∧ n < p) →
    Ev (fun k => qv.l0 k p l acc n (i : Int)) (acc ++ (l.drop i).map fun x => x * (if n = 0 then invP p (qbf (l.drop i)) else n) % p)
  | 0, i, acc, n, h, ha, hn => by
    refine Ev.step (f := fun _ => some acc) (fun k => ?_) ?_
    · rw [qv.l0, if_neg (by omega)]
    · rw [List.drop_eq_nil_of_le (by omega)]; simpa using Ev.now acc
  | d + 1, i, acc, n, h, ha, hn => by
    have hb := z5 hp
    have hi : i < l.length := by omega
    have hx := hr _ (List.getElem_mem hi)
    rw [← Zu l i hi] at hx
    rw [qc6 l i hi]
    by_cases h0 : n = 0
    · have hv := Q7 hp hx.1 hx.2
      have hm := qfs hb.2 hx.1 hx.2 hv.2.1 hv.2.2.1
      refine Ev.step (f := fun k => (zp.f k p (rd l (i : Int))).bind fun t => qv.l0 k p l (acc ++ [Int.tmod (wrap64 ((rd l (i : Int)) * t)) p]) t ((i + 1 : Nat) : Int)) (fun k => ?_) (Ev.bind (qmj hp hx.1 hx.2) ?_)
      · rw [qv.l0, if_pos (by omega), if_pos h0, if_pos (by omega)]
        congr 1
        funext t
        rw [if_neg (by omega), if_pos (by omega), wsm (i := (i : Int) + 1) (by omega) (by omega)]
        rfl
      · have ih := qhq hp l hr hl d (i + 1) (acc ++ [Int.tmod (wrap64 ((rd l (i : Int)) * invP p (rd l (i : Int)))) p]) (invP p (rd l (i : Int))) (by omega) (by simp [ha]) (.inr ⟨hv.2.1, hv.2.2.1⟩)
        rw [wsm (by omega) (by omega), Int.tmod_eq_emod_of_nonneg hm.1] at ih ⊢
        rw [List.append_assoc] at ih
        rw [qcr, if_pos h0]
        by_cases hz : rd l (i : Int) = 0
        · rw [if_pos hz]
          rw [if_pos (hv.2.2.2.2 hz)] at ih
          simp only [hz, Int.zero_mul, List.map_cons] at ih ⊢
          exact ih
        · rw [if_neg hz]
          rw [if_neg (qon hp hx.1 hx.2 hz)] at ih
          simpa using ih
    · have hn' : 0 ≤ n ∧ n < p := by rcases hn with h | h; exact absurd h h0; exact h
      have hm := qfs hb.2 hx.1 hx.2 hn'.1 hn'.2
      refine Ev.step (f := fun k => qv.l0 k p l (acc ++ [Int.tmod (wrap64 ((rd l (i : Int)) * n)) p]) n ((i + 1 : Nat) : Int)) (fun k => ?_) ?_
      · rw [qv.l0, if_pos (by omega), if_neg h0, if_pos (by omega), if_neg (by omega), if_pos (by omega), wsm (i := (i : Int) + 1) (by omega) (by omega)]
        rfl
      · have ih := qhq hp l hr hl d (i + 1) (acc ++ [Int.tmod (wrap64 ((rd l (i : Int)) * n)) p]) n (by omega) (by simp [ha]) hn
        rw [wsm (by omega) (by omega), Int.tmod_eq_emod_of_nonneg hm.1] at ih ⊢
        rw [if_neg h0] at ih ⊢
        simpa using ih
theorem qc1 {p : Int} (hp : zh p = true) (l : List Int) (hr : ∀ x ∈ l, 0 ≤ x ∧ x < p) (hl : l.length ≤ 1000) : Ev (fun k => qv.f k p l) (rowP p l) := by
  have := qhq hp l hr hl l.length 0 [] 0 (by omega) rfl (.inl rfl)
  unfold qv.f
  simpa [rowP] using this
end Go.Proofs.Ytmgbpmihbljngaa.PA
namespace Go.Proofs.Ytmgbpmihbljngaa.PA
open Go.RowKit Go.Proofs.YtmgbpmihbljngaaW.PrintWords Go.Proofs.YtmgbpmihbljngaaW.PrintLast Go.Proofs.YtmgbpmihbljngaaW.PrintMore
set_option linter.unusedVariables false
set_option linter.unusedSimpArgs false
def ptB (p x y z : Int) : Bool := Jp p [x, y, z] 3 && qcj [x, y, z]
theorem qlx {p : Int} (hp : zh p = true) {l : List Int} (hr : ∀ x ∈ l, 0 ≤ x ∧ x < p) : ((rowP p l).all fun x => x == 0) = l.all fun x => x == 0 := by
  have hb := z5 hp
  rw [Bool.eq_iff_iff, List.all_eq_true, List.all_eq_true]
  unfold rowP
  constructor
  · intro h x hx
    cases hf : l.find? (fun x => x != 0) with
    | none => have := List.find?_eq_none.1 hf x hx; simpa using this
    | some y =>
      have hy := List.mem_of_find?_eq_some hf
      have hy0 : y ≠ 0 := by simpa using List.find?_some hf
      have h1 := h _ (List.mem_map.2 ⟨y, hy, rfl⟩)
      rw [qbf, hf] at h1
      have := (Q7 hp (hr y hy).1 (hr y hy).2).2.2.2.1 hy0
      simp only [Option.getD_some] at h1
      rw [this] at h1
      simp at h1
  · intro h x hx
    obtain ⟨y, hy, rfl⟩ := List.mem_map.1 hx
    have := h y hy
    simp at this
    simp [this]
end Go.Proofs.Ytmgbpmihbljngaa.PA
namespace Go.Proofs.Ytmgbpmihbljngaa.PA
open Go.RowKit Go.Proofs.YtmgbpmihbljngaaW.PrintWords Go.Proofs.YtmgbpmihbljngaaW.PrintLast Go.Proofs.YtmgbpmihbljngaaW.PrintMore
set_option linter.unusedVariables false
set_option linter.unusedSimpArgs false
theorem qco (p x y z : Int) : Qf.f p x y z = some (ptB p x y z) := by
  unfold Qf.f
  have e := qan p [x, y, z] 3
  rw [show ((3 : Nat) : Int) = 3 from rfl] at e
  rw [e, Option.bind_some, ptB]
  cases h : Jp p [x, y, z] 3 <;> rfl
end Go.Proofs.Ytmgbpmihbljngaa.PA
namespace Go.Proofs.Ytmgbpmihbljngaa.PA
open Go.RowKit Go.Proofs.YtmgbpmihbljngaaW.PrintWords Go.Proofs.YtmgbpmihbljngaaW.PrintLast Go.Proofs.YtmgbpmihbljngaaW.PrintMore
set_option linter.unusedVariables false
set_option linter.unusedSimpArgs false
def jq (p t : Int) (h r : List Int) : List Int := List.zipWith (fun x y => (x - t * y) % p) r h
def Qw (p b : Int) (r : List Int) : List Int := r.map fun x => x * b % p
def redP (p : Int) : Nat → Nat → List (List Int) → List (List Int) → List (List Int)
  | 0, _, _, O => O
  | d + 1, c, L, O =>
    match L.findIdx? (fun row => rd row (c : Int) != 0) with
    | none => redP p d (c + 1) L O
    | some i => redP p d (c + 1) ((L.eraseIdx i).map fun r => jq p (rd r (c : Int)) (Qw p (invP p (rd (L.getD i []) (c : Int))) (L.getD i [])) r) ((O.map fun r => jq p (rd r (c : Int)) (Qw p (invP p (rd (L.getD i []) (c : Int))) (L.getD i [])) r) ++ [Qw p (invP p (rd (L.getD i []) (c : Int))) (L.getD i [])])
def J0 (p : Int) : Nat → Nat → List (List Int) → List Int → List Int
  | 0, _, _, H => H
  | d + 1, c, L, H =>
    match L.findIdx? (fun row => rd row (c : Int) != 0) with
    | none => J0 p d (c + 1) L H
    | some i => J0 p d (c + 1) ((L.eraseIdx i).map fun r => jq p (rd r (c : Int)) (Qw p (invP p (rd (L.getD i []) (c : Int))) (L.getD i [])) r) (H ++ [(c : Int)])
def okR (p : Int) (w : Nat) (L : List (List Int)) : Prop := ∀ r ∈ L, r.length = w ∧ ∀ x ∈ r, 0 ≤ x ∧ x < p
theorem qek (p : Int) (w : Nat) : okR p w [] := fun _ h => absurd h (by simp)
theorem qih {p : Int} {w : Nat} {r : List Int} {L : List (List Int)} (h1 : r.length = w ∧ ∀ x ∈ r, 0 ≤ x ∧ x < p) (h2 : okR p w L) : okR p w (r :: L) := fun x hx => by
  rcases List.mem_cons.1 hx with rfl | hx
  · exact h1
  · exact h2 x hx
theorem qg8 {p : Int} {w : Nat} {L M : List (List Int)} (h1 : okR p w L) (h2 : okR p w M) : okR p w (L ++ M) := fun x hx => by
  rcases List.mem_append.1 hx with hx | hx
  · exact h1 x hx
  · exact h2 x hx
theorem qeg {p t : Int} {w : Nat} {h r : List Int} (hp : 0 < p) (hh : h.length = w) (hr : r.length = w) : (jq p t h r).length = w ∧ ∀ x ∈ jq p t h r, 0 ≤ x ∧ x < p := by
  refine ⟨by simp [jq, hh, hr], fun x hx => ?_⟩
  rw [jq, List.mem_iff_getElem] at hx
  obtain ⟨i, hi, rfl⟩ := hx
  rw [List.getElem_zipWith]
  exact ⟨Int.emod_nonneg _ (by omega), Int.emod_lt_of_pos _ hp⟩
theorem qbh {p b : Int} {w : Nat} {r : List Int} (hp : 0 < p) (hr : r.length = w) : (Qw p b r).length = w ∧ ∀ x ∈ Qw p b r, 0 ≤ x ∧ x < p := by
  refine ⟨by simp [Qw, hr], fun x hx => ?_⟩
  obtain ⟨y, _, rfl⟩ := List.mem_map.1 hx
  exact ⟨Int.emod_nonneg _ (by omega), Int.emod_lt_of_pos _ hp⟩
theorem Qt {L : List (List Int)} {i : Nat} (h : i < L.length) : L.getD i [] ∈ L := by
  rw [List.getD_eq_getElem?_getD, List.getElem?_eq_getElem h]; exact List.getElem_mem h
theorem qbr {p : Int} {w : Nat} {L : List (List Int)} {h : List Int} (t : List Int → Int) (hp : 0 < p) (hh : h.length = w) (hL : okR p w L) : okR p w (L.map fun r => jq p (t r) h r) := fun x hx => by
  obtain ⟨r, hr, rfl⟩ := List.mem_map.1 hx
  exact qeg hp hh (hL r hr).1
theorem qbx {p : Int} {w : Nat} {L : List (List Int)} (i : Nat) (hL : okR p w L) : okR p w (L.eraseIdx i) := fun r hr => hL r (List.mem_of_mem_eraseIdx hr)
theorem qc3 {L : List (List Int)} {P : List Int → Bool} {i : Nat} (h : L.findIdx? P = some i) : i < L.length ∧ P (L.getD i []) = true := by
  rw [List.findIdx?_eq_some_iff_getElem] at h
  obtain ⟨hi, hp, _⟩ := h
  exact ⟨hi, by rw [List.getD_eq_getElem?_getD, List.getElem?_eq_getElem hi]; exact hp⟩
theorem qd6 {p : Int} {w : Nat} {r : List Int} (h : r.length = w ∧ ∀ x ∈ r, 0 ≤ x ∧ x < p) (j : Nat) (hj : j < w) : 0 ≤ rd r (j : Int) ∧ rd r (j : Int) < p := by
  rw [Zu r j (by omega)]; exact h.2 _ (List.getElem_mem _)
theorem qg7 {p t : Int} {h r : List Int} (j : Nat) (h1 : j < r.length) (h2 : j < h.length) : rd (jq p t h r) (j : Int) = (rd r (j : Int) - t * rd h (j : Int)) % p := by
  rw [Zu _ j (by simp [jq]; omega), Zu _ j h1, Zu _ j h2]; simp [jq]
theorem qii {p b : Int} {r : List Int} (j : Nat) (h1 : j < r.length) : rd (Qw p b r) (j : Int) = rd r (j : Int) * b % p := by
  rw [Zu _ j (by simp [Qw]; omega), Zu _ j h1]; simp [Qw]
def modW (p x : Int) : Int := Int.tmod (wrap64 (Int.tmod x p + p)) p
theorem qef {p : Int} (hp : 0 < p) (x : Int) : -p < Int.tmod x p ∧ Int.tmod x p < p := by
  refine ⟨?_, Int.tmod_lt_of_pos x hp⟩
  have h1 := Int.tmod_lt_of_pos (-x) hp
  rw [Int.neg_tmod] at h1
  omega
theorem qmh {p : Int} (x : Int) : (Int.tmod x p + p) % p = x % p := by
  have h := Int.mul_tdiv_add_tmod x p
  have e : x = Int.tmod x p + p * x.tdiv p := by omega
  rw [Int.add_emod_right]
  conv => rhs; rw [e, Int.add_mul_emod_self_left]
theorem Zj {x p : Int} (hp : 7 ≤ p ∧ p ≤ 31) (h0 : -1000000000 ≤ x) (h1 : x ≤ 1000000000) : modW p (wrap64 x) = x % p := by
  rw [wsm (by omega) (by omega), modW]
  have hb := qef (p := p) (by omega) x
  rw [wsm (by omega) (by omega), Int.tmod_eq_emod_of_nonneg (by omega), qmh]
end Go.Proofs.Ytmgbpmihbljngaa.PA
namespace Go.Proofs.Ytmgbpmihbljngaa.PA
open Go.RowKit Go.Proofs.YtmgbpmihbljngaaW.PrintWords Go.Proofs.YtmgbpmihbljngaaW.PrintLast Go.Proofs.YtmgbpmihbljngaaW.PrintMore
set_option linter.unusedVariables false
set_option linter.unusedSimpArgs false
theorem qat (p x : Int) (hp : p ≠ 0) : jo.f p x = some (modW p x) := by rw [jo.f, if_neg hp]; rfl
theorem qiw {p t : Int} {w : Nat} (hp : 7 ≤ p ∧ p ≤ 31) (ht : 0 ≤ t ∧ t < p) {h r : List Int} (hh : h.length = w ∧ ∀ x ∈ h, 0 ≤ x ∧ x < p) (hr : r.length = w ∧ ∀ x ∈ r, 0 ≤ x ∧ x < p) (hw : w ≤ 1000) : ∀ (d i : Nat), i + d = w → Ev (fun k => q8.l0 k p r t h ((jq p t h r).take i) (i : Int)) (jq p t h r)
  | 0, i, he => by
    have hl := (qeg (p := p) (t := t) (by omega) hh.1 hr.1).1
    refine Ev.step (f := fun _ => some (jq p t h r)) (fun k => ?_) (Ev.now _)
    rw [q8.l0, if_neg (by omega), List.take_of_length_le (by omega)]
  | d + 1, i, he => by
    have hl := (qeg (p := p) (t := t) (by omega) hh.1 hr.1).1
    have hx := qd6 hr i (by omega)
    have hy := qd6 hh i (by omega)
    have hm := qfs hp.2 ht.1 ht.2 hy.1 hy.2
    refine Ev.step (f := fun k => q8.l0 k p r t h ((jq p t h r).take (i + 1)) ((i + 1 : Nat) : Int)) (fun k => ?_) (qiw hp ht hh hr hw d (i + 1) (by omega))
    rw [q8.l0, if_pos (by omega), if_pos (by omega), if_pos (by omega), qat _ _ (by omega), Option.bind_some, if_pos (by simp; omega), wsm (i := (i : Int) + 1) (by omega) (by omega), wsm (i := t * rd h (i : Int)) (by omega) (by omega), Zj hp (by omega) (by omega)]
    have e : (jq p t h r).take (i + 1) = (jq p t h r).take i ++ [(rd r (i : Int) - t * rd h (i : Int)) % p] := by
      rw [List.take_add_one, List.getElem?_eq_getElem (by omega), ← Zu (jq p t h r) i (by omega), qg7 i (by omega) (by omega)]
      rfl
    rw [e]
    rfl
theorem qgk {p t : Int} {w : Nat} (hp : 7 ≤ p ∧ p ≤ 31) (ht : 0 ≤ t ∧ t < p) {h r : List Int} (hh : h.length = w ∧ ∀ x ∈ h, 0 ≤ x ∧ x < p) (hr : r.length = w ∧ ∀ x ∈ r, 0 ≤ x ∧ x < p) (hw : w ≤ 1000) : Ev (fun k => q8.f k p r t h) (jq p t h r) := by
  unfold q8.f
  simpa using qiw hp ht hh hr hw w 0 (by omega)
theorem qbk (L : List (List Int)) (i : Nat) : jl L (i : Int) = L.getD i [] := by simp [jl]
theorem qi7 : ∀ (l : List Int) (c : Nat), c < l.length → (∀ j : Nat, j < c → rd l (j : Int) = 0) → rd l (c : Int) ≠ 0 → qbf l = rd l (c : Int)
  | [], c, h, _, _ => absurd h (by simp)
  | x :: l, 0, _, _, hn => by
    have e : rd (x :: l) ((0 : Nat) : Int) = x := by simp [rd]
    rw [e] at hn ⊢
    rw [qcr, if_neg hn]
  | x :: l, c + 1, h, hz, hn => by
    have e : ∀ j : Nat, rd (x :: l) ((j + 1 : Nat) : Int) = rd l (j : Int) := fun j => by simp [rd]
    have h0 : x = 0 := by have := hz 0 (by omega); simpa [rd] using this
    rw [qcr, if_pos h0, e]
    exact qi7 l c (by simpa using h) (fun j hj => by rw [← e]; exact hz (j + 1) (by omega)) (by rw [← e]; exact hn)
theorem qho {p : Int} {l : List Int} {c : Nat} (hc : c < l.length) (hz : ∀ j : Nat, j < c → rd l (j : Int) = 0) (hn : rd l (c : Int) ≠ 0) : rowP p l = Qw p (invP p (rd l (c : Int))) l := by
  rw [rowP, qi7 l c hc hz hn, Qw]
def qds (c : Nat) (L : List (List Int)) : Prop := ∀ r ∈ L, ∀ j : Nat, j < c → rd r (j : Int) = 0
theorem qd8 {p : Int} (hp : zh p = true) {w c : Nat} (hc : c < w) {L : List (List Int)} (hL : okR p w L) (hz : qds c L) {i : Nat} (hf : L.findIdx? (fun row => rd row (c : Int) != 0) = some i) :
    qds (c + 1) ((L.eraseIdx i).map fun r => jq p (rd r (c : Int)) (Qw p (invP p (rd (L.getD i []) (c : Int))) (L.getD i [])) r) := by
  intro r hr j hj
  obtain ⟨q, hq, rfl⟩ := List.mem_map.1 hr
  have hq' := List.mem_of_mem_eraseIdx hq
  obtain ⟨hi, hne⟩ := qc3 hf
  have hx := hL _ (Qt hi)
  have hxr := qd6 hx c hc
  have hne' : rd (L.getD i []) (c : Int) ≠ 0 := by simpa using hne
  have hql := (hL q hq').1
  rw [qg7 j (by omega) (by rw [(qbh (by have := z5 hp; omega) hx.1).1]; omega), qii j (by omega)]
  by_cases e : j = c
  · subst e
    rw [(Q7 hp hxr.1 hxr.2).2.2.2.1 hne', Int.mul_one, Int.sub_self, Int.zero_emod]
  · rw [hz q hq' j (by omega), hz _ (Qt hi) j (by omega)]
    simp
theorem qd7 {c : Nat} {L : List (List Int)} (hz : qds c L) (hf : L.findIdx? (fun row => rd row (c : Int) != 0) = none) : qds (c + 1) L := by
  intro r hr j hj
  by_cases e : j = c
  · subst e
    have := List.findIdx?_eq_none_iff.1 hf r hr
    simpa using this
  · exact hz r hr j (by omega)
theorem qga {p : Int} {w : Nat} {rows out : List (List Int)} {heads : List Int} {c : Nat} {R : List (List Int) × List Int} (hc : c < w) (hw : w ≤ 1000) (hlen : rows.length < 1000000) (hr : ∀ r ∈ rows, r.length = w)
    (hnone : rows.findIdx? (fun row => rd row (c : Int) != 0) = none → Ev (fun k => qc.l0 k p rows (w : Int) out heads ((c + 1 : Nat) : Int)) R)
    (hsome : ∀ i, rows.findIdx? (fun row => rd row (c : Int) != 0) = some i → Ev (fun k => (qv.f k p (rows.getD i [])).bind fun t => qc.l2 k p rows (w : Int) out heads (c : Int) (i : Int) t [] 0) R) :
    ∀ (d i : Nat), i + d = rows.length → (rows.take i).findIdx? (fun row => rd row (c : Int) != 0) = none → Ev (fun k => qc.l1 k p rows (w : Int) out heads (c : Int) (-1) (i : Int)) R
  | 0, i, he, hf => by
    have hf' : rows.findIdx? (fun row => rd row (c : Int) != 0) = none := by rwa [List.take_of_length_le (by omega)] at hf
    refine Ev.step (f := fun k => qc.j2 k p rows (w : Int) out heads (c : Int) (-1) (i : Int) false) (fun k => ?_) ?_
    · rw [qc.l1, if_neg (by omega)]
    · refine Ev.step (f := fun k => qc.l0 k p rows (w : Int) out heads ((c + 1 : Nat) : Int)) (fun k => ?_) (hnone hf')
      rw [qc.j2, if_neg (by simp), if_pos (by omega), wsm (by omega) (by omega)]
      rfl
  | d + 1, i, he, hf => by
    have hi : i < rows.length := by omega
    have hrl : (rows.getD i []).length = w := hr _ (Qt hi)
    refine Ev.step (f := fun k => qc.j2 k p rows (w : Int) out heads (c : Int) (-1) (i : Int) true) (fun k => ?_) ?_
    · rw [qc.l1, if_pos (by omega)]; rfl
    · by_cases hz : rd (rows.getD i []) (c : Int) = 0
      · refine Ev.step (f := fun k => qc.l1 k p rows (w : Int) out heads (c : Int) (-1) ((i + 1 : Nat) : Int)) (fun k => ?_) (qga hc hw hlen hr hnone hsome d (i + 1) (by omega) ?_)
        · rw [qc.j2, if_pos rfl, if_pos (by omega), if_pos (by omega), if_pos (by omega), qbk, if_pos (by omega), if_pos hz, wsm (by omega) (by omega)]
          rfl
        · rw [List.take_add_one, List.findIdx?_append, hf, List.getElem?_eq_getElem hi]
          rw [List.getD_eq_getElem?_getD, List.getElem?_eq_getElem hi] at hz
          simp only [Option.getD_some] at hz
          simp [List.findIdx?_cons, hz]
      · have hfi : rows.findIdx? (fun row => rd row (c : Int) != 0) = some i := by
          rw [List.getD_eq_getElem?_getD, List.getElem?_eq_getElem hi] at hz
          simp only [Option.getD_some] at hz
          have hsplit : rows = rows.take i ++ rows[i] :: rows.drop (i + 1) := by rw [List.getElem_cons_drop, List.take_append_drop]
          rw [hsplit, List.findIdx?_append, hf]
          have hz' : (rd rows[i] (c : Int) != 0) = true := bne_iff_ne.mpr hz
          rw [List.findIdx?_cons, hz']
          simp only [if_true, Option.map_some, Option.none_or, List.length_take, Nat.zero_add]
          rw [Nat.min_eq_left (by omega)]
        have hs := hsome i hfi
        have hfin : ∀ q : Nat, Ev (fun k => qc.j2 k p rows (w : Int) out heads (c : Int) (i : Int) (q : Int) false) R := fun q => by
          refine Ev.step (f := fun k => (qv.f k p (rows.getD i [])).bind fun t => qc.l2 k p rows (w : Int) out heads (c : Int) (i : Int) t [] 0) (fun k => ?_) hs
          rw [qc.j2, if_neg (by simp), if_neg (by omega), if_pos (by omega), if_pos (by omega), qbk]
        refine Ev.step (f := fun k => qc.l1 k p rows (w : Int) out heads (c : Int) (i : Int) ((i + 1 : Nat) : Int)) (fun k => ?_) ?_
        · rw [qc.j2, if_pos rfl, if_pos (by omega), if_pos (by omega), if_pos (by omega), qbk, if_pos (by omega), if_neg hz, wsm (by omega) (by omega)]
          rfl
        · refine Ev.step (f := fun k => qc.j2 k p rows (w : Int) out heads (c : Int) (i : Int) ((i + 1 : Nat) : Int) false) (fun k => ?_) (hfin (i + 1))
          rw [qc.l1]
          split
          · rw [decide_eq_false (by omega)]
          · rfl
theorem qkw {p : Int} {w : Nat} (hp : 7 ≤ p ∧ p ≤ 31) {rows out : List (List Int)} {heads : List Int} {c at_ : Nat} {row : List Int} {R : List (List Int) × List Int} (hc : c < w) (hw : w ≤ 1000) (hlen : rows.length < 1000000) (hr : okR p w rows) (hrow : row.length = w ∧ ∀ x ∈ row, 0 ≤ x ∧ x < p) (hat : at_ < rows.length)
    (hend : Ev (fun k => qc.l3 k p ((rows.eraseIdx at_).map fun r => jq p (rd r (c : Int)) row r) (w : Int) out heads (c : Int) row 0) R) :
    ∀ (d i : Nat), i + d = rows.length → Ev (fun k => qc.l2 k p rows (w : Int) out heads (c : Int) (at_ : Int) row (((rows.take i).eraseIdx at_).map fun r => jq p (rd r (c : Int)) row r) (i : Int)) R
  | 0, i, he => by
    refine Ev.step (f := fun k => qc.l3 k p ((rows.eraseIdx at_).map fun r => jq p (rd r (c : Int)) row r) (w : Int) out heads (c : Int) row 0) (fun k => ?_) hend
    rw [qc.l2, if_neg (by omega), List.take_of_length_le (by omega)]
  | d + 1, i, he => by
    have hi : i < rows.length := by omega
    have ih := qkw hp hc hw hlen hr hrow hat hend d (i + 1) (by omega)
    by_cases e : i = at_
    · subst e
      refine Ev.step (f := fun k => qc.l2 k p rows (w : Int) out heads (c : Int) (i : Int) row (((rows.take (i + 1)).eraseIdx i).map fun r => jq p (rd r (c : Int)) row r) ((i + 1 : Nat) : Int)) (fun k => ?_) ih
      rw [qc.l2, if_pos (by omega), if_pos rfl, wsm (by omega) (by omega)]
      have e1 : (rows.take i).eraseIdx i = rows.take i := List.eraseIdx_of_length_le (by rw [List.length_take]; omega)
      have e2 : (rows.take (i + 1)).eraseIdx i = rows.take i := by
        rw [List.take_add_one, List.eraseIdx_append_of_length_le (by rw [List.length_take]; omega)]
        simp [Nat.min_eq_left (Nat.le_of_lt hi), List.getElem?_eq_getElem hi]
      rw [e1, e2]
      rfl
    · have hrow_i := hr _ (Qt hi)
      have ht := qd6 hrow_i c hc
      refine Ev.step (f := fun k => (q8.f k p (rows.getD i []) (rd (rows.getD i []) (c : Int)) row).bind fun t => if (((rows.take i).eraseIdx at_).map fun r => jq p (rd r (c : Int)) row r).length < 5864062014805 then qc.l2 k p rows (w : Int) out heads (c : Int) (at_ : Int) row ((((rows.take i).eraseIdx at_).map fun r => jq p (rd r (c : Int)) row r) ++ [t]) ((i + 1 : Nat) : Int) else none) (fun k => ?_) ?_
      · rw [qc.l2, if_pos (by omega), if_neg (by omega), if_pos (by omega), if_pos (by omega), qbk, if_pos (by omega), wsm (by omega) (by omega)]
        rfl
      · refine Ev.bind (qgk hp ht hrow hrow_i hw) (Ev.yes ?_ ?_)
        · rw [List.length_map]
          have h1 := List.length_eraseIdx_le (rows.take i) at_
          have h2 : (rows.take i).length ≤ rows.length := by rw [List.length_take]; omega
          omega
        · have e2 : ((rows.take (i + 1)).eraseIdx at_).map (fun r => jq p (rd r (c : Int)) row r) = ((rows.take i).eraseIdx at_).map (fun r => jq p (rd r (c : Int)) row r) ++ [jq p (rd (rows.getD i []) (c : Int)) row (rows.getD i [])] := by
            have e3 : rows.take (i + 1) = rows.take i ++ [rows.getD i []] := by
              rw [List.take_add_one, List.getElem?_eq_getElem hi, List.getD_eq_getElem?_getD, List.getElem?_eq_getElem hi]; rfl
            by_cases hlt : at_ < i
            · rw [e3, List.eraseIdx_append_of_lt_length (by simp; omega), List.map_append]; rfl
            · rw [List.eraseIdx_of_length_le (by simp; omega), List.eraseIdx_of_length_le (by simp; omega), e3, List.map_append]; rfl
          rw [e2] at ih
          exact ih
theorem qlt {α : Type} (N R : List α) (j : Nat) (v : α) (hl : N.length = R.length) (hj : j < R.length) (hv : N[j]? = some v) : (N.take j ++ R.drop j).set j v = N.take (j + 1) ++ R.drop (j + 1) := by
  rw [List.set_append_right _ _ (by simp; omega), List.length_take, Nat.min_eq_left (by omega), Nat.sub_self, List.drop_eq_getElem_cons hj, List.set_cons_zero, List.take_add_one, hv]
  simp
theorem qk4 {p : Int} {w : Nat} (hp : 7 ≤ p ∧ p ≤ 31) {rest out : List (List Int)} {heads : List Int} {c : Nat} {row : List Int} {R : List (List Int) × List Int} (hc : c < w) (hw : w ≤ 1000) (hlen : out.length < 1000000) (hh : heads.length < 1000000) (hr : okR p w out) (hrow : row.length = w ∧ ∀ x ∈ row, 0 ≤ x ∧ x < p)
    (hend : Ev (fun k => qc.l0 k p rest (w : Int) ((out.map fun r => jq p (rd r (c : Int)) row r) ++ [row]) (heads ++ [(c : Int)]) ((c + 1 : Nat) : Int)) R) :
    ∀ (d i : Nat), i + d = out.length → Ev (fun k => qc.l3 k p rest (w : Int) ((out.map fun r => jq p (rd r (c : Int)) row r).take i ++ out.drop i) heads (c : Int) row (i : Int)) R
  | 0, i, he => by
    refine Ev.step (f := fun k => qc.l0 k p rest (w : Int) ((out.map fun r => jq p (rd r (c : Int)) row r) ++ [row]) (heads ++ [(c : Int)]) ((c + 1 : Nat) : Int)) (fun k => ?_) hend
    rw [List.drop_eq_nil_of_le (by omega), List.append_nil, List.take_of_length_le (by simp; omega), qc.l3, if_neg (by simp; omega), if_pos (by simp; omega), if_pos (by omega), wsm (by omega) (by omega)]
    rfl
  | d + 1, i, he => by
    have hi : i < out.length := by omega
    have ih := qk4 hp hc hw hlen hh hr hrow hend d (i + 1) (by omega)
    have hrow_i := hr _ (Qt hi)
    have ht := qd6 hrow_i c hc
    have hcur : ((out.map fun r => jq p (rd r (c : Int)) row r).take i ++ out.drop i).getD i [] = out.getD i [] := by
      simp [List.getD_eq_getElem?_getD, List.getElem?_append_right, Nat.min_eq_left (Nat.le_of_lt hi), hi]
    have hcl : ((out.map fun r => jq p (rd r (c : Int)) row r).take i ++ out.drop i).length = out.length := by simp; omega
    have hset : ((out.map fun r => jq p (rd r (c : Int)) row r).take i ++ out.drop i).set i (jq p (rd (out.getD i []) (c : Int)) row (out.getD i [])) = (out.map fun r => jq p (rd r (c : Int)) row r).take (i + 1) ++ out.drop (i + 1) :=
      qlt _ _ _ _ (by simp) hi (by simp [List.getD_eq_getElem?_getD, List.getElem?_eq_getElem hi])
    refine Ev.step (f := fun k => (q8.f k p (out.getD i []) (rd (out.getD i []) (c : Int)) row).bind fun t => qc.l3 k p rest (w : Int) (((out.map fun r => jq p (rd r (c : Int)) row r).take i ++ out.drop i).set i t) heads (c : Int) row ((i + 1 : Nat) : Int)) (fun k => ?_) ?_
    · rw [qc.l3, if_pos (by omega), if_pos (by omega), if_pos (by omega), qbk, hcur, if_pos (by omega), wsm (by omega) (by omega), Int.toNat_natCast]
      rfl
    · refine Ev.bind (qgk hp ht hrow hrow_i hw) ?_
      rw [hset]
      exact ih
theorem qcq {p : Int} (hp : zh p = true) {w : Nat} (hw : w ≤ 1000) : ∀ (d c : Nat) (L O : List (List Int)) (H : List Int), c + d = w → okR p w L → okR p w O → qds c L → L.length + O.length < 1000000 → H.length = O.length →
    Ev (fun k => qc.l0 k p L (w : Int) O H (c : Int)) (redP p d c L O, J0 p d c L H)
  | 0, c, L, O, H, hc, _, _, _, _, _ => by
    refine Ev.step (f := fun _ => some (O, H)) (fun k => ?_) (Ev.now _)
    rw [qc.l0, if_neg (by omega)]
  | d + 1, c, L, O, H, hc, hL, hO, hz, hl, hH => by
    have hb := z5 hp
    refine Ev.step (f := fun k => qc.l1 k p L (w : Int) O H (c : Int) (-1) ((0 : Nat) : Int)) (fun k => ?_) ?_
    · rw [qc.l0, if_pos (by omega)]; rfl
    · refine qga (by omega) hw (by omega) (fun r hr => (hL r hr).1) (fun hf => ?_) (fun i hf => ?_) L.length 0 (by omega) rfl
      · have ih := qcq hp hw d (c + 1) L O H (by omega) hL hO (qd7 hz hf) hl hH
        rw [redP, J0, hf]
        exact ih
      · obtain ⟨hi, hne⟩ := qc3 hf
        have hx := hL _ (Qt hi)
        have hne' : rd (L.getD i []) (c : Int) ≠ 0 := by simpa using hne
        have hs := qbh (p := p) (b := invP p (rd (L.getD i []) (c : Int))) (by omega) hx.1
        have hzn := qd8 hp (by omega) hL hz hf
        have ih := qcq hp hw d (c + 1) ((L.eraseIdx i).map fun r => jq p (rd r (c : Int)) (Qw p (invP p (rd (L.getD i []) (c : Int))) (L.getD i [])) r) ((O.map fun r => jq p (rd r (c : Int)) (Qw p (invP p (rd (L.getD i []) (c : Int))) (L.getD i [])) r) ++ [Qw p (invP p (rd (L.getD i []) (c : Int))) (L.getD i [])]) (H ++ [(c : Int)]) (by omega)
          (qbr _ (by omega) hs.1 (qbx i hL)) (qg8 (qbr _ (by omega) hs.1 hO) (qih hs (qek p w))) hzn (by simp [List.length_eraseIdx, hi]; omega) (by simp [hH])
        rw [redP, J0, hf]
        simp only
        refine Ev.bind (a := Qw p (invP p (rd (L.getD i []) (c : Int))) (L.getD i [])) ?_ ?_
        · have h1 := qc1 hp (L.getD i []) hx.2 (by omega)
          rwa [qho (by omega) (hz _ (Qt hi)) hne'] at h1
        · have h2 := qk4 hb (c := c) (heads := H) (out := O) (rest := (L.eraseIdx i).map fun r => jq p (rd r (c : Int)) (Qw p (invP p (rd (L.getD i []) (c : Int))) (L.getD i [])) r) (by omega) hw (by omega) (by omega) hO hs ih O.length 0 (by omega)
          have h3 := qkw hb (c := c) (by omega) hw (by omega) hL hs hi (by simpa using h2) L.length 0 (by omega)
          simpa using h3
theorem qd9 {p : Int} (hp : zh p = true) {w : Nat} (hw : w ≤ 1000) (L : List (List Int)) (hL : okR p w L) (hl : L.length < 1000000) : Ev (fun k => qc.f k p L (w : Int)) (redP p w 0 L [], J0 p w 0 L []) := by
  unfold qc.f
  exact qcq hp hw w 0 L [] [] (by omega) hL (qek p w) (fun _ _ j hj => absurd hj (by omega)) (by simpa using hl) rfl
end Go.Proofs.Ytmgbpmihbljngaa.PA
namespace Go.Proofs.Ytmgbpmihbljngaa.PA
open Go.RowKit Go.Proofs.YtmgbpmihbljngaaW.PrintWords Go.Proofs.YtmgbpmihbljngaaW.PrintLast Go.Proofs.YtmgbpmihbljngaaW.PrintMore
set_option linter.unusedVariables false
set_option linter.unusedSimpArgs false
theorem j7 {p x y : Int} (hp : 7 ≤ p ∧ p ≤ 31) (hx : 0 ≤ x ∧ x < p) (hy : 0 ≤ y ∧ y < p) : 0 ≤ x * y ∧ x * y ≤ 900 := qfs hp.2 hx.1 hx.2 hy.1 hy.2
def crsP (p : Int) (a b : Int × Int × Int) : List Int := [(a.2.1 * b.2.2 - a.2.2 * b.2.1) % p, (a.2.2 * b.1 - a.1 * b.2.2) % p, (a.1 * b.2.1 - a.2.1 * b.1) % p]
def inP (p : Int) (a : Int × Int × Int) : Prop := (0 ≤ a.1 ∧ a.1 < p) ∧ (0 ≤ a.2.1 ∧ a.2.1 < p) ∧ (0 ≤ a.2.2 ∧ a.2.2 < p)
theorem Ja {p : Int} {a : Int × Int × Int} (h : ptB p a.1 a.2.1 a.2.2 = true) : inP p a := by
  rw [ptB, Bool.and_eq_true] at h
  have := (Z4 h.1).2.2
  exact ⟨this _ (by simp), this _ (by simp), this _ (by simp)⟩
theorem qjp {p : Int} (hp : 7 ≤ p ∧ p ≤ 31) (a b : Int × Int × Int) (ha : inP p a) (hb : inP p b) : j6.f p a.1 a.2.1 a.2.2 b.1 b.2.1 b.2.2 = some (crsP p a b) := by
  obtain ⟨a0, a1, a2⟩ := ha
  obtain ⟨b0, b1, b2⟩ := hb
  have m1 := j7 hp a1 b2
  have m2 := j7 hp a2 b1
  have m3 := j7 hp a2 b0
  have m4 := j7 hp a0 b2
  have m5 := j7 hp a0 b1
  have m6 := j7 hp a1 b0
  unfold j6.f
  rw [wsm (i := a.2.1 * b.2.2) (by omega) (by omega), wsm (i := a.2.2 * b.2.1) (by omega) (by omega), wsm (i := a.2.2 * b.1) (by omega) (by omega), wsm (i := a.1 * b.2.2) (by omega) (by omega), wsm (i := a.1 * b.2.1) (by omega) (by omega), wsm (i := a.2.1 * b.1) (by omega) (by omega),
    qat _ _ (by omega), qat _ _ (by omega), qat _ _ (by omega), Zj hp (by omega) (by omega), Zj hp (by omega) (by omega), Zj hp (by omega) (by omega)]
  rfl
theorem qov {p : Int} (hp : 7 ≤ p ∧ p ≤ 31) (a : Int × Int × Int) (ha : inP p a) (x y z : Int) (hx : 0 ≤ x ∧ x < p) (hy : 0 ≤ y ∧ y < p) (hz : 0 ≤ z ∧ z < p) : Z8.f p a.1 a.2.1 a.2.2 [x, y, z] = some ((a.1 * x + a.2.1 * y + a.2.2 * z) % p == 0) := by
  obtain ⟨a0, a1, a2⟩ := ha
  have m1 := j7 hp a0 hx
  have m2 := j7 hp a1 hy
  have m3 := j7 hp a2 hz
  unfold Z8.f
  rw [if_pos (by simp), if_pos (by simp), if_pos (by simp), if_neg (by omega)]
  simp only [rd, Int.toNat_zero, Int.toNat_one, show (2 : Int).toNat = 2 from rfl, List.getD_cons_zero, List.getD_cons_succ]
  rw [wsm (i := a.1 * x) (by omega) (by omega), wsm (i := a.2.1 * y) (by omega) (by omega), wsm (i := a.2.2 * z) (by omega) (by omega), wsm (i := a.1 * x + a.2.1 * y) (by omega) (by omega), wsm (by omega) (by omega), Int.tmod_eq_emod_of_nonneg (by omega)]
def colB (p : Int) (a b c : Int × Int × Int) : Bool := (c.1 * (a.2.1 * b.2.2 - a.2.2 * b.2.1) + c.2.1 * (a.2.2 * b.1 - a.1 * b.2.2) + c.2.2 * (a.1 * b.2.1 - a.2.1 * b.1)) % p == 0
theorem mod3 (p x y z u v w : Int) : (x * (u % p) + y * (v % p) + z * (w % p)) % p = (x * u + y * v + z * w) % p := by
  have e : x * (u % p) + y * (v % p) + z * (w % p) = x * u + y * v + z * w + p * (-(x * (u / p) + y * (v / p) + z * (w / p))) := by
    simp only [Int.emod_def]; grind
  rw [e, Int.add_mul_emod_self_left]
theorem qmy {p : Int} (hp : 7 ≤ p ∧ p ≤ 31) (a b c : Int × Int × Int) (hc : inP p c) : Z8.f p c.1 c.2.1 c.2.2 (crsP p a b) = some (colB p a b c) := by
  have hm : ∀ y : Int, 0 ≤ y % p ∧ y % p < p := fun y => ⟨Int.emod_nonneg _ (by omega), Int.emod_lt_of_pos _ (by omega)⟩
  rw [crsP, qov hp c hc _ _ _ (hm _) (hm _) (hm _), colB]
  congr 2
  exact mod3 p _ _ _ _ _ _
end Go.Proofs.Ytmgbpmihbljngaa.PA
namespace Go.Proofs.Ytmgbpmihbljngaa.PA
open Go.RowKit Go.Proofs.YtmgbpmihbljngaaW.PrintWords Go.Proofs.YtmgbpmihbljngaaW.PrintLast Go.Proofs.YtmgbpmihbljngaaW.PrintMore
set_option linter.unusedVariables false
set_option linter.unusedSimpArgs false
theorem qf2 : ∀ p ∈ ([7, 11, 13, 17, 19, 23, 29, 31] : List Int), ∀ x ∈ List.range 31, (x : Int) < p → (x : Int) ≠ 0 → jd.f 40 (x : Int) p = some (invP p (x : Int)) := by decide +kernel
theorem qkg {p : Int} (hp : zh p = true) {x : Int} (h0 : 0 ≤ x) (h1 : x < p) (hx : x ≠ 0) : Ev (fun k => jd.f k x p) (invP p x) := by
  have hb := z5 hp
  refine Ev.of (jd.mono x p) (k := 40) ?_
  have h2 := qf2 p (by have := Jw hp; simp; omega) x.toNat (by simp; omega) (by omega) (by omega)
  rwa [show ((x.toNat : Nat) : Int) = x by omega] at h2
theorem J4 {x p : Int} (hp : 7 ≤ p ∧ p ≤ 31) (h0 : -1000000000 ≤ x) (h1 : x ≤ 1000000000) : modV p (wrap64 x) = x % p := Zj hp h0 h1
theorem qd5 {p t : Int} (hp : 7 ≤ p ∧ p ≤ 31) (ht : 0 ≤ t ∧ t < p) (h : List Int) (hh : ∀ x ∈ h, 0 ≤ x ∧ x < p) : ∀ (r : List Int) (i : Nat), (∀ x ∈ r, 0 ≤ x ∧ x < p) → i + r.length = h.length → Zv p t h i r = jq p t (h.drop i) r
  | [], _, _, _ => by simp [Zv, jq]
  | x :: r, i, hr, hl => by
    have hx := hr x (by simp)
    simp only [List.length_cons] at hl
    have hy : 0 ≤ rd h (i : Int) ∧ rd h (i : Int) < p := by rw [Zu h i (by omega)]; exact hh _ (List.getElem_mem _)
    have hm := qfs hp.2 ht.1 ht.2 hy.1 hy.2
    rw [qc6 h i (by omega), Zv, qd5 hp ht h hh r (i + 1) (fun z hz => hr z (by simp [hz])) (by omega), wsm (i := t * rd h (i : Int)) (by omega) (by omega), J4 hp (by omega) (by omega)]
    simp [jq]
theorem qjj {p : Int} {w : Nat} (hp : 7 ≤ p ∧ p ≤ 31) (c : Nat) (hc : c < w) {h r : List Int} (hh : h.length = w ∧ ∀ x ∈ h, 0 ≤ x ∧ x < p) (hr : r.length = w ∧ ∀ x ∈ r, 0 ≤ x ∧ x < p) : Qu p c h r = jq p (rd r (c : Int)) h r := by
  rw [Qu, qd5 hp (qd6 hr c hc) h hh.2 r 0 hr.2 (by omega), List.drop_zero]
theorem qhv {p b : Int} {w : Nat} (hp : 7 ≤ p ∧ p ≤ 31) (hb : 0 ≤ b ∧ b < p) {r : List Int} (hr : r.length = w ∧ ∀ x ∈ r, 0 ≤ x ∧ x < p) : jr p b r = Qw p b r := by
  rw [jr, Qw]
  refine List.map_congr_left fun x hx => ?_
  have h1 := hr.2 x hx
  have hm := qfs hp.2 h1.1 h1.2 hb.1 hb.2
  rw [wsm (by omega) (by omega), Int.tmod_eq_emod_of_nonneg hm.1]
theorem qcl {p : Int} (hp : zh p = true) {w : Nat} : ∀ (d c : Nat) (L O : List (List Int)), c + d = w → okR p w L → okR p w O → Ev (fun k => Qr k p d c L O) (redP p d c L O)
  | 0, _, _, O, _, _, _ => Ev.k rfl
  | d + 1, c, L, O, hw, hL, hO => by
    have hb := z5 hp
    unfold Qr redP
    cases hf : L.findIdx? (fun row => rd row (c : Int) != 0) with
    | none => exact qcl hp d (c + 1) L O (by omega) hL hO
    | some i =>
      simp only
      obtain ⟨hi, hne⟩ := qc3 hf
      have hx := hL _ (Qt hi)
      have hxr := qd6 hx c (by omega)
      have hne' : rd (L.getD i []) (c : Int) ≠ 0 := by simpa using hne
      have hinv := Q7 hp hxr.1 hxr.2
      refine Ev.bind (qkg hp hxr.1 hxr.2 hne') ?_
      have hs := qbh (p := p) (b := invP p (rd (L.getD i []) (c : Int))) (by omega) hx.1
      rw [qhv hb ⟨hinv.2.1, hinv.2.2.1⟩ hx]
      have e1 : ∀ M : List (List Int), okR p w M → M.map (Qu p c (Qw p (invP p (rd (L.getD i []) (c : Int))) (L.getD i []))) = M.map fun r => jq p (rd r (c : Int)) (Qw p (invP p (rd (L.getD i []) (c : Int))) (L.getD i [])) r :=
        fun M hM => List.map_congr_left fun r hr => qjj hb c (by omega) hs (hM r hr)
      rw [e1 _ (qbx i hL), e1 _ hO]
      exact qcl hp d (c + 1) _ _ (by omega) (qbr _ (by omega) hs.1 (qbx i hL)) (qg8 (qbr _ (by omega) hs.1 hO) (qih hs (qek p w)))
theorem qck {p : Int} (hp : zh p = true) {w : Nat} (L : List (List Int)) (hw : w < 1000000) (hl : L.length < 1000000) (hL : ∀ r ∈ L, r.length = w) : Ev (fun k => z9.f k p L) (redP p w 0 (L.map fun r => r.map (modV p)) []) := by
  have hb := z5 hp
  have hok : okR p w (L.map fun r => r.map (modV p)) := fun x hx => by
    obtain ⟨r, hr, rfl⟩ := List.mem_map.1 hx
    refine ⟨by rw [List.length_map, hL r hr], fun y hy => ?_⟩
    obtain ⟨z, _, rfl⟩ := List.mem_map.1 hy
    have h2 := qef (p := p) (by omega) z
    rw [modV, wsm (by omega) (by omega), Int.tmod_eq_emod_of_nonneg (by omega)]
    exact ⟨Int.emod_nonneg _ (by omega), Int.emod_lt_of_pos _ (by omega)⟩
  cases L with
  | nil =>
    have e : ∀ d c, redP p d c [] [] = [] := fun d => by
      induction d with
      | zero => intro c; rfl
      | succ d ih => intro c; rw [redP]; exact ih (c + 1)
    rw [List.map_nil, e]
    refine Ev.k (α := List (List Int)) (x := some []) rfl |>.congr fun k => ?_
    rw [z9.f, if_neg (by omega), if_pos ⟨by simp, by simp, by simp⟩]
    simp [Qr]
  | cons r L =>
    have hr := hL r (by simp)
    refine (qcl hp w 0 _ [] (by omega) hok (qek p w)).congr fun k => ?_
    rw [z9.f, if_neg (by omega), if_pos ⟨hl, by simpa [hr] using hw, by simpa [hr] using hL⟩]
    simp [hr]
theorem qgj {p x : Int} (hp : zh p = true) (h0 : 0 ≤ x) (h1 : x < p) : modV p x = x := by
  have hb := z5 hp
  rw [modV, Int.tmod_eq_of_lt h0 h1, wsm (by omega) (by omega), Int.tmod_eq_emod_of_nonneg (by omega), Int.add_emod_right, Int.emod_eq_of_lt h0 h1]
theorem qkb {p : Int} (hp : zh p = true) {w : Nat} (L : List (List Int)) (hw : w < 1000000) (hl : L.length < 1000000) (hL : okR p w L) : Ev (fun k => z9.f k p L) (redP p w 0 L []) := by
  have h := qck hp L hw hl (fun r hr => (hL r hr).1)
  have e : (L.map fun r => r.map (modV p)) = L := by
    rw [List.map_congr_left (g := id)]
    · simp
    · intro r hr
      rw [List.map_congr_left (g := id)]
      · simp
      · intro x hx; have := (hL r hr).2 x hx; exact qgj hp this.1 this.2
  rwa [e] at h
end Go.Proofs.Ytmgbpmihbljngaa.PA
namespace Go.Proofs.Ytmgbpmihbljngaa.PA
open Go.RowKit Go.Proofs.YtmgbpmihbljngaaW.PrintWords Go.Proofs.YtmgbpmihbljngaaW.PrintLast Go.Proofs.YtmgbpmihbljngaaW.PrintMore
set_option linter.unusedVariables false
set_option linter.unusedSimpArgs false
def crsI (a b : Int × Int × Int) : List Int := [a.2.1 * b.2.2 - a.2.2 * b.2.1, a.2.2 * b.1 - a.1 * b.2.2, a.1 * b.2.1 - a.2.1 * b.1]
theorem qms {p : Int} (hp : 7 ≤ p ∧ p ≤ 31) (a b : Int × Int × Int) (ha : inP p a) (hb : inP p b) : Ql.f a.1 a.2.1 a.2.2 b.1 b.2.1 b.2.2 = some (crsI a b) := by
  obtain ⟨a0, a1, a2⟩ := ha
  obtain ⟨b0, b1, b2⟩ := hb
  have m1 := j7 hp a1 b2
  have m2 := j7 hp a2 b1
  have m3 := j7 hp a2 b0
  have m4 := j7 hp a0 b2
  have m5 := j7 hp a0 b1
  have m6 := j7 hp a1 b0
  unfold Ql.f
  rw [wsm (i := a.2.1 * b.2.2) (by omega) (by omega), wsm (i := a.2.2 * b.2.1) (by omega) (by omega), wsm (i := a.2.2 * b.1) (by omega) (by omega), wsm (i := a.1 * b.2.2) (by omega) (by omega), wsm (i := a.1 * b.2.1) (by omega) (by omega), wsm (i := a.2.1 * b.1) (by omega) (by omega),
    wsm (by omega) (by omega), wsm (by omega) (by omega), wsm (by omega) (by omega)]
  rfl
theorem qhs {p u y : Int} (hp : 7 ≤ p ∧ p ≤ 31) (hu : -900 ≤ u ∧ u ≤ 900) (hy : 0 ≤ y ∧ y < p) : -30000 ≤ u * y ∧ u * y ≤ 30000 := by
  obtain ⟨y0, y1⟩ := hy
  have h1 : u * y ≤ 900 * y := Int.mul_le_mul_of_nonneg_right hu.2 y0
  have h2 : -900 * y ≤ u * y := Int.mul_le_mul_of_nonneg_right hu.1 y0
  omega
theorem ql8 {p : Int} (hp : 7 ≤ p ∧ p ≤ 31) (a b c : Int × Int × Int) (ha : inP p a) (hb : inP p b) (hc : inP p c) : Ev (fun k => jc.f k p (crsI a b) [c.1, c.2.1, c.2.2]) (((a.2.1 * b.2.2 - a.2.2 * b.2.1) * c.1 + (a.2.2 * b.1 - a.1 * b.2.2) * c.2.1 + (a.1 * b.2.1 - a.2.1 * b.1) * c.2.2) % p) := by
  obtain ⟨a0, a1, a2⟩ := ha
  obtain ⟨b0, b1, b2⟩ := hb
  obtain ⟨c0, c1, c2⟩ := hc
  have m1 := j7 hp a1 b2
  have m2 := j7 hp a2 b1
  have m3 := j7 hp a2 b0
  have m4 := j7 hp a0 b2
  have m5 := j7 hp a0 b1
  have m6 := j7 hp a1 b0
  have d1 := qhs hp (u := a.2.1 * b.2.2 - a.2.2 * b.2.1) (by omega) c0
  have d2 := qhs hp (u := a.2.2 * b.1 - a.1 * b.2.2) (by omega) c1
  have d3 := qhs hp (u := a.1 * b.2.1 - a.2.1 * b.1) (by omega) c2
  unfold jc.f crsI
  generalize a.2.1 * b.2.2 - a.2.2 * b.2.1 = u0 at *
  generalize a.2.2 * b.1 - a.1 * b.2.2 = u1 at *
  generalize a.1 * b.2.1 - a.2.1 * b.1 = u2 at *
  have e : modV p (u0 * c.1 + u1 * c.2.1 + u2 * c.2.2) = (u0 * c.1 + u1 * c.2.1 + u2 * c.2.2) % p := by
    have := J4 (p := p) (x := u0 * c.1 + u1 * c.2.1 + u2 * c.2.2) hp (by omega) (by omega)
    rwa [wsm (by omega) (by omega)] at this
  refine Ev.step (fun q => by rw [jc.l0, if_pos (by simp), if_pos (by omega), if_pos (by simp), if_pos (by simp)]) ?_
  refine Ev.step (fun q => by rw [jc.l0, if_pos (by simp [wrap64]), if_pos (by simp [wrap64]), if_pos (by simp [wrap64]), if_pos (by simp [wrap64])]) ?_
  refine Ev.step (fun q => by rw [jc.l0, if_pos (by simp [wrap64]), if_pos (by simp [wrap64]), if_pos (by simp [wrap64]), if_pos (by simp [wrap64])]) ?_
  refine Ev.step (f := fun _ => some ((u0 * c.1 + u1 * c.2.1 + u2 * c.2.2) % p)) (fun q => ?_) (Ev.now _)
  rw [jc.l0, if_neg (by simp [wrap64])]
  have f0 : wrap64 (0 + 1) = 1 := by rw [wsm (by omega) (by omega)]; rfl
  have f1 : wrap64 (1 + 1) = 2 := by rw [wsm (by omega) (by omega)]; rfl
  have g0 : rd [u0, u1, u2] 0 = u0 := rfl
  have g1 : rd [u0, u1, u2] 1 = u1 := rfl
  have g2 : rd [u0, u1, u2] 2 = u2 := rfl
  have k0 : rd [c.1, c.2.1, c.2.2] 0 = c.1 := rfl
  have k1 : rd [c.1, c.2.1, c.2.2] 1 = c.2.1 := rfl
  have k2 : rd [c.1, c.2.1, c.2.2] 2 = c.2.2 := rfl
  rw [f0, f1, g0, g1, g2, k0, k1, k2, wsm (i := u0 * c.1) (by omega) (by omega), wsm (i := u1 * c.2.1) (by omega) (by omega), wsm (i := u2 * c.2.2) (by omega) (by omega), wsm (i := 0 + u0 * c.1) (by omega) (by omega), wsm (i := 0 + u0 * c.1 + u1 * c.2.1) (by omega) (by omega), wsm (by omega) (by omega), Int.zero_add, qgs p _ (by omega), e]
  rfl
theorem qor (p : Int) (a b c : Int × Int × Int) : ((((a.2.1 * b.2.2 - a.2.2 * b.2.1) * c.1 + (a.2.2 * b.1 - a.1 * b.2.2) * c.2.1 + (a.1 * b.2.1 - a.2.1 * b.1) * c.2.2) % p = 0) ↔ colB p b c a = true) := by
  rw [colB, beq_iff_eq]
  have e : (a.2.1 * b.2.2 - a.2.2 * b.2.1) * c.1 + (a.2.2 * b.1 - a.1 * b.2.2) * c.2.1 + (a.1 * b.2.1 - a.2.1 * b.1) * c.2.2 = a.1 * (b.2.1 * c.2.2 - b.2.2 * c.2.1) + a.2.1 * (b.2.2 * c.1 - b.1 * c.2.2) + a.2.2 * (b.1 * c.2.1 - b.2.1 * c.1) := by grind
  rw [e]
end Go.Proofs.Ytmgbpmihbljngaa.PA
namespace Go.Proofs.Ytmgbpmihbljngaa.PA
open Go.RowKit Go.Proofs.YtmgbpmihbljngaaW.PrintWords Go.Proofs.YtmgbpmihbljngaaW.PrintLast Go.Proofs.YtmgbpmihbljngaaW.PrintMore
set_option linter.unusedVariables false
set_option linter.unusedSimpArgs false
theorem qio (l : List Int) (hl : l.length ≤ 1000000) : ∀ (d i : Nat), i + d = l.length → Ev (fun k => zb.l0 k l (i : Int)) ((l.drop i).all fun x => x == 0)
  | 0, i, h => by
    refine Ev.step (f := fun _ => some true) (fun k => ?_) ?_
    · rw [zb.l0, if_neg (by omega)]
    · rw [List.drop_eq_nil_of_le (by omega)]; exact Ev.now _
  | d + 1, i, h => by
    have ih := qio l hl d (i + 1) (by omega)
    rw [qc6 l i (by omega), List.all_cons]
    by_cases hz : rd l (i : Int) = 0
    · refine Ev.step (f := fun k => zb.l0 k l ((i + 1 : Nat) : Int)) (fun k => ?_) ?_
      · rw [zb.l0, if_pos (by omega), if_pos (by omega), if_pos hz, wsm (by omega) (by omega)]; rfl
      · simpa [hz] using ih
    · refine Ev.step (f := fun _ => some false) (fun k => ?_) ?_
      · rw [zb.l0, if_pos (by omega), if_pos (by omega), if_neg hz]
      · rw [show (rd l (i : Int) == 0) = false from beq_eq_false_iff_ne.2 hz]
        exact Ev.now false
theorem qbu (l : List Int) (hl : l.length ≤ 1000000) : Ev (fun k => zb.f k l) (l.all fun x => x == 0) := by
  unfold zb.f
  simpa using qio l hl l.length 0 (by omega)
end Go.Proofs.Ytmgbpmihbljngaa.PA
namespace Go.Proofs.Ytmgbpmihbljngaa.PA
open Go.RowKit Go.Proofs.YtmgbpmihbljngaaW.PrintWords Go.Proofs.YtmgbpmihbljngaaW.PrintLast Go.Proofs.YtmgbpmihbljngaaW.PrintMore
set_option linter.unusedVariables false
set_option linter.unusedSimpArgs false
theorem ql7 {p : Int} (hp : zh p = true) {l : List Int} (hr : ∀ x ∈ l, 0 ≤ x ∧ x < p) : (!(l.all fun x => x == 0) && decide (rowP p l = l)) = qcj l := by
  have hb := z5 hp
  unfold qcj rowP qbf
  cases h : l.find? (fun x => x != 0) with
  | none =>
    have : (l.all fun x => x == 0) = true := by
      rw [List.all_eq_true]
      intro x hx
      have := List.find?_eq_none.1 h x hx
      simpa using this
    rw [this]; rfl
  | some y =>
    have hy := List.mem_of_find?_eq_some h
    have hy0 : y ≠ 0 := by simpa using List.find?_some h
    have hall : (l.all fun x => x == 0) = false := by
      rw [Bool.eq_false_iff]
      intro e
      exact hy0 (by simpa using List.all_eq_true.1 e y hy)
    rw [hall]
    simp only [Bool.not_false, Bool.true_and, Option.getD_some]
    rw [Bool.eq_iff_iff, decide_eq_true_iff, beq_iff_eq]
    constructor
    · intro e
      have e1 : y * invP p y % p = y := by
        have h2 : ∀ (m : List Int), (m.map fun x => x * invP p y % p) = m → y ∈ m → y * invP p y % p = y := by
          intro m
          induction m with
          | nil => intro _ h; simp at h
          | cons z m ih =>
            intro e h
            rw [List.map_cons] at e
            injection e with e1 e2
            rcases List.mem_cons.1 h with rfl | h
            · exact e1
            · exact ih e2 h
        exact h2 l e hy
      have := (Q7 hp (hr y hy).1 (hr y hy).2).2.2.2.1 hy0
      rw [this] at e1
      rw [← e1]
    · intro e
      injection e with e
      subst e
      rw [qny hp]
      refine (List.map_congr_left (g := id) fun x hx => ?_).trans (List.map_id _)
      rw [Int.mul_one, Int.emod_eq_of_lt (hr x hx).1 (hr x hx).2]; rfl
end Go.Proofs.Ytmgbpmihbljngaa.PA
namespace Go.Proofs.Ytmgbpmihbljngaa.PA
open Go.RowKit Go.Proofs.YtmgbpmihbljngaaW.PrintWords Go.Proofs.YtmgbpmihbljngaaW.PrintLast Go.Proofs.YtmgbpmihbljngaaW.PrintMore
set_option linter.unusedVariables false
set_option linter.unusedSimpArgs false
theorem qpa {p : Int} (hp : zh p = true) (x y z : Int) : Ev (fun k => z8.f k p x y z) (ptB p x y z) := by
  have hb := z5 hp
  have hlin : ∀ x, linB p x = true ↔ 0 ≤ x ∧ x < p := fun x => by
    rw [linB, wsm (by omega) (by omega), Bool.and_eq_true, decide_eq_true_iff, decide_eq_true_iff]; omega
  have hno : ∀ w ∈ [x, y, z], ¬ linB p w = true → ptB p x y z = false := fun w hw hn => by
    cases hh : ptB p x y z with
    | false => rfl
    | true =>
      rw [ptB, Bool.and_eq_true] at hh
      exact absurd ((hlin w).2 ((Z4 hh.1).2.2 w hw)) hn
  unfold z8.f
  by_cases h1 : linB p x = true
  · refine Ev.yes h1 ?_
    by_cases h2 : linB p y = true
    · refine Ev.yes h2 ?_
      by_cases h3 : linB p z = true
      · refine Ev.yes h3 ?_
        have hr : ∀ w ∈ [x, y, z], 0 ≤ w ∧ w < p := fun w hw => by
          simp only [List.mem_cons, List.not_mem_nil, or_false] at hw
          rcases hw with rfl | rfl | rfl
          · exact (hlin _).1 h1
          · exact (hlin _).1 h2
          · exact (hlin _).1 h3
        refine Ev.bind (qc1 hp [x, y, z] hr (by simp)) (Ev.bind (qbu _ (by simp [rowP])) ?_)
        have hn : Jp p [x, y, z] 3 = true := qdd hp rfl hr
        rw [qlx hp hr, ptB, hn, Bool.true_and, ← ql7 hp hr]
        cases hz : [x, y, z].all (fun x => x == 0) with
        | true => exact Ev.yes rfl (Ev.now _)
        | false =>
          refine Ev.no (by simp) (Ev.yes (by simp [rowP]) ?_)
          have e : ((rd (rowP p [x, y, z]) 0 == x) && (rd (rowP p [x, y, z]) 1 == y) && (rd (rowP p [x, y, z]) 2 == z)) = (!false && decide (rowP p [x, y, z] = [x, y, z])) := by
            rw [Bool.eq_iff_iff]
            simp [rowP, rd, and_assoc]
          rw [← e]
          exact Ev.now _
      · rw [hno z (by simp) h3]; exact Ev.no h3 (Ev.now _)
    · rw [hno y (by simp) h2]; exact Ev.no h2 (Ev.now _)
  · rw [hno x (by simp) h1]; exact Ev.no h1 (Ev.now _)
end Go.Proofs.Ytmgbpmihbljngaa.PA
namespace Go.Proofs.Ytmgbpmihbljngaa.PA
open Go.RowKit Go.Proofs.YtmgbpmihbljngaaW.PrintWords Go.Proofs.YtmgbpmihbljngaaW.PrintLast Go.Proofs.YtmgbpmihbljngaaW.PrintMore
set_option linter.unusedVariables false
set_option linter.unusedSimpArgs false
theorem qcn (p x y z : Int) : Ev (fun k => je.f k p x y z) (ptB p x y z) := by
  unfold je.f
  refine Ev.bind (Ev.k (qcp p)) ?_
  cases hp : zh p with
  | true => exact Ev.yes rfl (Ev.bind (qpa hp x y z) (Ev.now _))
  | false =>
    rw [show ptB p x y z = false by simp [ptB, Jp, hp]]
    exact Ev.no (by simp) (Ev.now _)
end Go.Proofs.Ytmgbpmihbljngaa.PA
namespace Go.Proofs.Ytmgbpmihbljngaa.PA
open Go.RowKit Go.Proofs.YtmgbpmihbljngaaW.PrintWords Go.Proofs.YtmgbpmihbljngaaW.PrintLast Go.Proofs.YtmgbpmihbljngaaW.PrintMore
set_option linter.unusedVariables false
set_option linter.unusedSimpArgs false
def tpl (x : S43) : Int × Int × Int := (x.f0.f0, x.f0.f1, x.f0.f2)
def tps (l : List S43) : List (Int × Int × Int) := l.map tpl
theorem qa2 (l : List S43) (i : Nat) (hi : i < l.length) : tpl (qd l (i : Int)) = (tps l).getD i (0, 0, 0) := by
  simp [qd, tps, List.getD_eq_getElem?_getD, hi]
def allN (f : Nat → Bool) : Nat → Nat → Bool
  | 0, _ => true
  | d + 1, i => f i && allN f d (i + 1)
theorem qc5 (f : Nat → Bool) : ∀ d i, allN f d i = true ↔ ∀ j, i ≤ j → j < i + d → f j = true
  | 0, i => by simp [allN]; omega
  | d + 1, i => by
    rw [allN, Bool.and_eq_true, qc5 f d (i + 1)]
    constructor
    · intro h j h1 h2
      by_cases e : j = i
      · subst e; exact h.1
      · exact h.2 j (by omega) (by omega)
    · intro h
      exact ⟨h i (by omega) (by omega), fun j h1 h2 => h j (by omega) (by omega)⟩
def apI (p : Int) (Q : List (Int × Int × Int)) (i : Nat) : Bool := ptB p (Q.getD i (0, 0, 0)).1 (Q.getD i (0, 0, 0)).2.1 (Q.getD i (0, 0, 0)).2.2 && allN (fun k => allN (fun j => !colB p (Q.getD k (0, 0, 0)) (Q.getD j (0, 0, 0)) (Q.getD i (0, 0, 0))) k 0) i 0
def Ju (p : Int) (Q : List (Int × Int × Int)) : Bool := allN (apI p Q) Q.length 0
theorem qjm {p : Int} (hp : zh p = true) (l : List S43) (hl : l.length ≤ 1000000) : Ev (fun k => qm.f k p l) (Ju p (tps l)) := by
  have hb := z5 hp
  have hlen : (tps l).length = l.length := by simp [tps]
  have hpt : ∀ (i : Nat), i < l.length → Ev (fun k => je.f k p (qd l (i : Int)).f0.f0 (qd l (i : Int)).f0.f1 (qd l (i : Int)).f0.f2) (ptB p ((tps l).getD i (0, 0, 0)).1 ((tps l).getD i (0, 0, 0)).2.1 ((tps l).getD i (0, 0, 0)).2.2) := fun i hi => by
    rw [← qa2 l i hi]; exact qcn _ _ _ _
  have h2 : ∀ (i k : Nat) (R : Bool), i < l.length → k < i → (∀ j, j < i → inP p ((tps l).getD j (0, 0, 0))) → inP p ((tps l).getD i (0, 0, 0)) → Ev (fun q => qm.l1 q p l (i : Int) ((k + 1 : Nat) : Int)) R → ∀ (d j : Nat), j + d = k → Ev (fun q => qm.l2 q p l (i : Int) (k : Int) (j : Int)) (allN (fun j => !colB p ((tps l).getD k (0, 0, 0)) ((tps l).getD j (0, 0, 0)) ((tps l).getD i (0, 0, 0))) d j && R) := by
    intro i k R hi hk hin hii hend d
    induction d with
    | zero =>
      intro j hj
      refine Ev.step (fun q => by rw [qm.l2, if_neg (by omega), wsm (by omega) (by omega)]) ?_
      rw [allN, Bool.true_and]
      exact hend
    | succ d ih =>
      intro j hj
      have e1 : ∀ m : Nat, m < l.length → (qd l (m : Int)).f0.f0 = ((tps l).getD m (0, 0, 0)).1 ∧ (qd l (m : Int)).f0.f1 = ((tps l).getD m (0, 0, 0)).2.1 ∧ (qd l (m : Int)).f0.f2 = ((tps l).getD m (0, 0, 0)).2.2 := fun m hm => by rw [← qa2 l m hm]; exact ⟨rfl, rfl, rfl⟩
      obtain ⟨a1, a2, a3⟩ := e1 i hi
      obtain ⟨b1, b2, b3⟩ := e1 k (by omega)
      obtain ⟨c1, c2, c3⟩ := e1 j (by omega)
      refine Ev.step (fun q => by rw [qm.l2, if_pos (by omega), if_pos (by omega), if_pos (by omega), if_pos (by omega), if_pos (by omega), if_pos (by omega), if_pos (by omega), a1, a2, a3, b1, b2, b3, c1, c2, c3, qjp ⟨by omega, by omega⟩ _ _ (hin k hk) (hin j (by omega)), Option.bind_some, qmy ⟨by omega, by omega⟩ _ _ _ hii, Option.bind_some, wsm (by omega) (by omega)]) ?_
      rw [allN]
      cases hc : colB p ((tps l).getD k (0, 0, 0)) ((tps l).getD j (0, 0, 0)) ((tps l).getD i (0, 0, 0)) with
      | true => exact Ev.yes rfl (Ev.now _)
      | false =>
        refine Ev.no (by simp) ?_
        have := ih (j + 1) (by omega)
        simpa using this
  have h1 : ∀ (i : Nat) (R : Bool), i < l.length → (∀ j, j < i → inP p ((tps l).getD j (0, 0, 0))) → inP p ((tps l).getD i (0, 0, 0)) → Ev (fun q => qm.l0 q p l ((i + 1 : Nat) : Int)) R → ∀ (d k : Nat), k + d = i → Ev (fun q => qm.l1 q p l (i : Int) (k : Int)) (allN (fun k => allN (fun j => !colB p ((tps l).getD k (0, 0, 0)) ((tps l).getD j (0, 0, 0)) ((tps l).getD i (0, 0, 0))) k 0) d k && R) := by
    intro i R hi hin hii hend d
    induction d with
    | zero =>
      intro k hk
      refine Ev.step (fun q => by rw [qm.l1, if_neg (by omega), wsm (by omega) (by omega)]) ?_
      rw [allN, Bool.true_and]
      exact hend
    | succ d ih =>
      intro k hk
      refine Ev.step (fun q => by rw [qm.l1, if_pos (by omega)]) ?_
      have := h2 i k _ hi (by omega) hin hii (ih (k + 1) (by omega)) k 0 (by omega)
      rw [allN, Bool.and_assoc]
      simpa using this
  have h0 : ∀ (d i : Nat), i + d = l.length → (∀ j, j < i → inP p ((tps l).getD j (0, 0, 0))) → Ev (fun q => qm.l0 q p l (i : Int)) (allN (apI p (tps l)) d i) := by
    intro d
    induction d with
    | zero =>
      intro i hi _
      exact Ev.step (f := fun _ => some true) (fun q => by rw [qm.l0, if_neg (by omega)]) (Ev.now _)
    | succ d ih =>
      intro i hi hin
      refine Ev.step (fun q => by rw [qm.l0, if_pos (by omega), if_pos (by omega)]) (Ev.bind (hpt i (by omega)) ?_)
      rw [allN, apI]
      cases hc : ptB p ((tps l).getD i (0, 0, 0)).1 ((tps l).getD i (0, 0, 0)).2.1 ((tps l).getD i (0, 0, 0)).2.2 with
      | false => exact Ev.no (by simp) (Ev.now _)
      | true =>
        refine Ev.yes rfl ?_
        have hii := Ja hc
        have := h1 i _ (by omega) hin hii (ih (i + 1) (by omega) fun j hj => by
          by_cases e : j = i
          · subst e; exact hii
          · exact hin j (by omega)) i 0 (by omega)
        simpa using this
  unfold qm.f Ju
  rw [hlen]
  exact h0 l.length 0 (by omega) (fun j hj => absurd hj (by omega))
theorem qdi {p : Int} (hp : zh p = false) (Q : List (Int × Int × Int)) (h : 0 < Q.length) : Ju p Q = false := by
  obtain ⟨n, hn⟩ : ∃ n, Q.length = n + 1 := ⟨Q.length - 1, by omega⟩
  rw [Ju, hn, allN, apI]
  simp [ptB, Jp, hp]
theorem qgw {p : Int} (hp : zh p = false) (l : List S43) (h : 0 < l.length) : Ev (fun k => qm.f k p l) false := by
  unfold qm.f
  refine Ev.step (fun q => by rw [qm.l0, if_pos (by omega), if_pos (by omega)]) (Ev.bind (qcn _ _ _ _) ?_)
  rw [show ptB p _ _ _ = false by simp [ptB, Jp, hp]]
  exact Ev.no (by simp) (Ev.now _)
theorem Zi {p : Int} {Q : List (Int × Int × Int)} (h : Ju p Q = true) : (∀ i, i < Q.length → ptB p (Q.getD i (0, 0, 0)).1 (Q.getD i (0, 0, 0)).2.1 (Q.getD i (0, 0, 0)).2.2 = true) ∧ ∀ i k j, i < Q.length → k < i → j < k → colB p (Q.getD k (0, 0, 0)) (Q.getD j (0, 0, 0)) (Q.getD i (0, 0, 0)) = false := by
  rw [Ju, qc5] at h
  have h1 : ∀ i, i < Q.length → apI p Q i = true := fun i hi => h i (by omega) (by omega)
  refine ⟨fun i hi => ?_, fun i k j hi hk hj => ?_⟩
  · have := h1 i hi
    rw [apI, Bool.and_eq_true] at this
    exact this.1
  · have := h1 i hi
    rw [apI, Bool.and_eq_true, qc5] at this
    have h2 := this.2 k (by omega) (by omega)
    rw [qc5] at h2
    simpa using h2 j (by omega) (by omega)
end Go.Proofs.Ytmgbpmihbljngaa.PA
namespace Go.Proofs.Ytmgbpmihbljngaa.PA
open Go.RowKit Go.Proofs.YtmgbpmihbljngaaW.PrintWords Go.Proofs.YtmgbpmihbljngaaW.PrintLast Go.Proofs.YtmgbpmihbljngaaW.PrintMore
set_option linter.unusedVariables false
set_option linter.unusedSimpArgs false
theorem qam (f : Nat → Bool) (d i : Nat) : allN f (d + 1) i = (f i && allN f d (i + 1)) := rfl
theorem qhy {p : Int} (l : List S43) (hl : l.length ≤ 1000000) : Ev (fun k => jf.f k p l) (Ju p (tps l)) := by
  have hlen : (tps l).length = l.length := by simp [tps]
  have e1 : ∀ m : Nat, m < l.length → (qd l (m : Int)).f0.f0 = ((tps l).getD m (0, 0, 0)).1 ∧ (qd l (m : Int)).f0.f1 = ((tps l).getD m (0, 0, 0)).2.1 ∧ (qd l (m : Int)).f0.f2 = ((tps l).getD m (0, 0, 0)).2.2 := fun m hm => by rw [← qa2 l m hm]; exact ⟨rfl, rfl, rfl⟩
  have h2 : ∀ (i j : Nat), i < l.length → j < i → zh p = true → (∀ m, m ≤ i → inP p ((tps l).getD m (0, 0, 0))) → ∀ (d m : Nat), m + d = j → Ev (fun k => ap2 k p l i j d m) (!allN (fun m => !colB p ((tps l).getD j (0, 0, 0)) ((tps l).getD m (0, 0, 0)) ((tps l).getD i (0, 0, 0))) d m) := by
    intro i j hi hj hp hin d
    have hb := z5 hp
    induction d with
    | zero => intro m _; exact Ev.now _
    | succ d ih =>
      intro m hm
      obtain ⟨a1, a2, a3⟩ := e1 i hi
      obtain ⟨b1, b2, b3⟩ := e1 j (by omega)
      obtain ⟨c1, c2, c3⟩ := e1 m (by omega)
      have hd := ql8 (p := p) ⟨by omega, by omega⟩ _ _ _ (hin i (by omega)) (hin j (by omega)) (hin m (by omega))
      have hc := qor p ((tps l).getD i (0, 0, 0)) ((tps l).getD j (0, 0, 0)) ((tps l).getD m (0, 0, 0))
      refine Ev.congr (fun k => by rw [ap2, a1, a2, a3, b1, b2, b3, c1, c2, c3, qms (p := p) ⟨by omega, by omega⟩ _ _ (hin i (by omega)) (hin j (by omega)), Option.bind_some]) ?_
      refine Ev.bind hd ?_
      rw [qam]
      cases h : colB p ((tps l).getD j (0, 0, 0)) ((tps l).getD m (0, 0, 0)) ((tps l).getD i (0, 0, 0)) with
      | true => exact Ev.yes (hc.2 h) (Ev.now _)
      | false =>
        refine Ev.no (fun e => by rw [hc.1 e] at h; cases h) ?_
        have := ih (m + 1) (by omega)
        simpa using this
  have h1 : ∀ (i : Nat), i < l.length → zh p = true → (∀ m, m ≤ i → inP p ((tps l).getD m (0, 0, 0))) → ∀ (d j : Nat), j + d = i → Ev (fun k => ap1 k p l i d j) (!allN (fun k => allN (fun j => !colB p ((tps l).getD k (0, 0, 0)) ((tps l).getD j (0, 0, 0)) ((tps l).getD i (0, 0, 0))) k 0) d j) := by
    intro i hi hp hin d
    induction d with
    | zero => intro j _; exact Ev.now _
    | succ d ih =>
      intro j hj
      refine Ev.congr (fun k => by rw [ap1]) ?_
      refine Ev.bind (h2 i j hi (by omega) hp hin j 0 (by omega)) ?_
      rw [qam]
      cases h : allN (fun m => !colB p ((tps l).getD j (0, 0, 0)) ((tps l).getD m (0, 0, 0)) ((tps l).getD i (0, 0, 0))) j 0 with
      | false => exact Ev.yes rfl (Ev.now _)
      | true =>
        refine Ev.no (by simp) ?_
        have := ih (j + 1) (by omega)
        simpa using this
  have h0 : ∀ (d i : Nat), i + d = l.length → (∀ m, m < i → inP p ((tps l).getD m (0, 0, 0))) → Ev (fun k => ap0 k p l d i) (allN (apI p (tps l)) d i) := by
    intro d
    induction d with
    | zero => intro i _ _; exact Ev.now _
    | succ d ih =>
      intro i hi hin
      obtain ⟨a1, a2, a3⟩ := e1 i (by omega)
      refine Ev.congr (fun k => by rw [ap0, a1, a2, a3, qco, Option.bind_some]) ?_
      rw [qam, apI]
      cases hpt : ptB p ((tps l).getD i (0, 0, 0)).1 ((tps l).getD i (0, 0, 0)).2.1 ((tps l).getD i (0, 0, 0)).2.2 with
      | false => exact Ev.no (by simp) (Ev.now _)
      | true =>
        have hp : zh p = true := by
          rw [ptB, Bool.and_eq_true] at hpt
          exact (Z4 hpt.1).1
        have hin' : ∀ m, m ≤ i → inP p ((tps l).getD m (0, 0, 0)) := fun m hm => by
          by_cases e : m = i
          · subst e; exact Ja hpt
          · exact hin m (by omega)
        refine Ev.yes rfl (Ev.bind (h1 i (by omega) hp hin' i 0 (by omega)) ?_)
        cases h : allN (fun k => allN (fun j => !colB p ((tps l).getD k (0, 0, 0)) ((tps l).getD j (0, 0, 0)) ((tps l).getD i (0, 0, 0))) k 0) i 0 with
        | false => exact Ev.yes rfl (Ev.now _)
        | true =>
          refine Ev.no (by simp) ?_
          have := ih (i + 1) (by omega) fun m hm => hin' m (by omega)
          simpa using this
  unfold jf.f
  refine Ev.yes hl ?_
  rw [Ju, hlen]
  exact h0 l.length 0 (by omega) (fun m hm => by omega)
end Go.Proofs.Ytmgbpmihbljngaa.PA
namespace Go.Proofs.Ytmgbpmihbljngaa.PA
open Go.RowKit Go.Proofs.YtmgbpmihbljngaaW.PrintWords Go.Proofs.YtmgbpmihbljngaaW.PrintLast Go.Proofs.YtmgbpmihbljngaaW.PrintMore
set_option linter.unusedVariables false
set_option linter.unusedSimpArgs false
def fn (r : List Int) (j : Nat) : Int := rd r (j : Int)
theorem Zo {p x y c : Int} (a b : Int) (hx : p ∣ x) (hy : p ∣ y) (h : c = a * x + b * y) : p ∣ c := by
  rw [h]; exact Int.dvd_add (Int.dvd_mul_of_dvd_right hx) (Int.dvd_mul_of_dvd_right hy)
theorem Zh {p x c : Int} (a : Int) (hx : p ∣ x) (h : c = a * x) : p ∣ c := by
  rw [h]; exact Int.dvd_mul_of_dvd_right hx
inductive Sp (p : Int) (w : Nat) (L : List (List Int)) : (Nat → Int) → Prop where
  | zero (v : Nat → Int) : (∀ j, j < w → p ∣ v j) → Sp p w L v
  | add (v u : Nat → Int) (r : List Int) (t : Int) : r ∈ L → Sp p w L u → (∀ j, j < w → p ∣ v j - (u j + t * fn r j)) → Sp p w L v
theorem Sp.congr {p : Int} {w : Nat} {L : List (List Int)} {u v : Nat → Int} (h : Sp p w L u) (he : ∀ j, j < w → p ∣ v j - u j) : Sp p w L v := by
  cases h with
  | zero _ hz => exact .zero v fun j hj => Zo 1 1 (he j hj) (hz j hj) (by omega)
  | add _ u' r t hr hu h2 => exact .add v u' r t hr hu fun j hj => Zo 1 1 (he j hj) (h2 j hj) (by omega)
theorem Sp.sum {p : Int} {w : Nat} {L : List (List Int)} {u v : Nat → Int} (hu : Sp p w L u) (hv : Sp p w L v) : Sp p w L fun j => u j + v j := by
  induction hv with
  | zero v hz => exact hu.congr fun j hj => Zh 1 (hz j hj) (by omega)
  | add v u' r t hr _ h2 ih => exact .add _ _ r t hr ih fun j hj => Zh 1 (h2 j hj) (by omega)
theorem Sp.scale {p : Int} {w : Nat} {L : List (List Int)} {v : Nat → Int} (s : Int) (hv : Sp p w L v) : Sp p w L fun j => s * v j := by
  induction hv with
  | zero v hz => exact .zero _ fun j hj => Zh s (hz j hj) rfl
  | add v u r t hr _ h2 ih => exact .add _ _ r (s * t) hr ih fun j hj => Zh s (h2 j hj) (by rw [Int.mul_sub, Int.mul_add, Int.mul_assoc])
theorem Sp.mem {p : Int} {w : Nat} {L : List (List Int)} {r : List Int} (hr : r ∈ L) : Sp p w L (fn r) :=
  .add _ (fun _ => 0) r 1 hr (.zero _ fun _ _ => Int.dvd_zero p) fun j _ => by simp
theorem Sp.sub {p : Int} {w : Nat} {L M : List (List Int)} (h : ∀ r ∈ L, Sp p w M (fn r)) {v : Nat → Int} (hv : Sp p w L v) : Sp p w M v := by
  induction hv with
  | zero v hz => exact .zero v hz
  | add v u r t hr _ h2 ih => exact (ih.sum ((h r hr).scale t)).congr h2
structure Rref (p : Int) (w : Nat) (P : List (Nat × List Int)) : Prop where
  lt : ∀ x ∈ P, x.1 < w
  ok : ∀ x ∈ P, x.2.length = w ∧ ∀ y ∈ x.2, 0 ≤ y ∧ y < p
  one : ∀ x ∈ P, fn x.2 x.1 = 1
  low : ∀ x ∈ P, ∀ j, j < x.1 → fn x.2 j = 0
  off : ∀ x ∈ P, ∀ y ∈ P, x.1 ≠ y.1 → fn x.2 y.1 = 0
  inc : P.Pairwise fun x y => x.1 < y.1
def cs (P : List (Nat × List Int)) (v : Nat → Int) (j : Nat) : Int := (P.map fun x => v x.1 * fn x.2 j).sum
theorem qel {p : Int} : ∀ (l : List Int), (∀ x ∈ l, p ∣ x) → p ∣ l.sum
  | [], _ => by simp
  | x :: l, h => by
    rw [List.sum_cons]
    exact Int.dvd_add (h x (by simp)) (qel l fun y hy => h y (by simp [hy]))
theorem qen {p : Int} {P : List (Nat × List Int)} {v : Nat → Int} {j : Nat} (h : ∀ x ∈ P, p ∣ v x.1 * fn x.2 j) : p ∣ cs P v j := by
  refine qel _ fun y hy => ?_
  obtain ⟨x, hx, rfl⟩ := List.mem_map.1 hy
  exact h x hx
theorem qji : ∀ (P : List (Nat × List Int)) (u v : Nat → Int) (t : Int) (j : Nat), cs P (fun i => u i + t * v i) j = cs P u j + t * cs P v j
  | [], _, _, _, _ => by simp [cs]
  | x :: P, u, v, t, j => by
    have ih := qji P u v t j
    simp only [cs, List.map_cons, List.sum_cons] at ih ⊢
    rw [ih]
    grind
theorem qo2 {p : Int} {w : Nat} {P : List (Nat × List Int)} (hlt : ∀ x ∈ P, x.1 < w) {u v : Nat → Int} (h : ∀ j, j < w → p ∣ v j - u j) (j : Nat) : p ∣ cs P v j - cs P u j := by
  have e : cs P v j - cs P u j = cs P (fun i => v i + (-1) * u i) j := by rw [qji]; omega
  rw [e]
  exact qen fun x hx => Zh (fn x.2 j) (h x.1 (hlt x hx)) (by rw [Int.mul_comm]; congr 1; omega)
theorem qc9 {α : Type} (f : α → Int) (x : α) (A B : List α) (ha : ∀ y ∈ A, f y = 0) (hb : ∀ y ∈ B, f y = 0) : ((A ++ x :: B).map f).sum = f x := by
  have hz : ∀ C : List α, (∀ y ∈ C, f y = 0) → (C.map f).sum = 0 := by
    intro C
    induction C with
    | nil => intro _; rfl
    | cons y C ih => intro h; rw [List.map_cons, List.sum_cons, h y (by simp), ih fun z hz => h z (by simp [hz])]; rfl
  rw [List.map_append, List.sum_append, List.map_cons, List.sum_cons, hz A ha, hz B hb]; omega
theorem qgl {P : List (Nat × List Int)} (hi : P.Pairwise fun x y => x.1 < y.1) {x : Nat × List Int} (hx : x ∈ P) : ∃ A B, P = A ++ x :: B ∧ (∀ y ∈ A, y.1 ≠ x.1) ∧ ∀ y ∈ B, y.1 ≠ x.1 := by
  obtain ⟨A, B, rfl⟩ := List.append_of_mem hx
  rw [List.pairwise_append, List.pairwise_cons] at hi
  exact ⟨A, B, rfl, fun y hy => Nat.ne_of_lt (hi.2.2 y hy x (by simp)), fun y hy => Nat.ne_of_gt (hi.2.1.1 y hy)⟩
theorem Rref.cs_row {p : Int} {w : Nat} {P : List (Nat × List Int)} (h : Rref p w P) {x : Nat × List Int} (hx : x ∈ P) (j : Nat) : cs P (fn x.2) j = fn x.2 j := by
  obtain ⟨A, B, e, ha, hb⟩ := qgl h.inc hx
  have h1 : ∀ y, y ∈ P → y.1 ≠ x.1 → fn x.2 y.1 * fn y.2 j = 0 := fun y hy hn => by rw [h.off x hx y hy (Ne.symm hn), Int.zero_mul]
  rw [cs]
  conv => lhs; rw [e]
  rw [qc9 _ x A B (fun y hy => h1 y (by rw [e]; simp [hy]) (ha y hy)) (fun y hy => h1 y (by rw [e]; simp [hy]) (hb y hy)), h.one x hx, Int.one_mul]
theorem Rref.coord {p : Int} {w : Nat} {P : List (Nat × List Int)} (h : Rref p w P) {v : Nat → Int} (hv : Sp p w (P.map Prod.snd) v) : ∀ j, j < w → p ∣ v j - cs P v j := by
  induction hv with
  | zero v hz => exact fun j hj => Zo 1 (-1) (hz j hj) (qen (P := P) (j := j) fun x hx => Zh (fn x.2 j) (hz x.1 (h.lt x hx)) (Int.mul_comm _ _)) (by omega)
  | add v u r t hr _ h2 ih =>
    intro j hj
    obtain ⟨x, hx, rfl⟩ := List.mem_map.1 hr
    have h3 := qo2 h.lt h2 j
    rw [qji, h.cs_row hx] at h3
    have h4 := h2 j hj
    have h5 := ih j hj
    exact Zo 1 1 (Zo 1 (-1) h4 h3 rfl) h5 (by omega)
theorem Rref.lead {p : Int} {w : Nat} {P : List (Nat × List Int)} (h : Rref p w P) {v : Nat → Int} (hv : Sp p w (P.map Prod.snd) v) {j : Nat} (hj : j < w) (hz : ∀ i, i < j → p ∣ v i) (hn : ¬ p ∣ v j) : ∃ x ∈ P, x.1 = j := by
  by_cases hex : ∃ x ∈ P, x.1 = j
  · exact hex
  · exfalso
    have h1 := h.coord hv j hj
    refine hn (Zo 1 1 h1 (qen (P := P) (v := v) (j := j) fun x hx => ?_) (by omega))
    have hne : x.1 ≠ j := fun e => hex ⟨x, hx, e⟩
    by_cases hlt : x.1 < j
    · exact Zh (fn x.2 j) (hz x.1 hlt) (Int.mul_comm _ _)
    · rw [h.low x hx j (by omega), Int.mul_zero]; exact Int.dvd_zero p
theorem qgm {α : Type} {key : α → Nat} : ∀ {P Q : List α}, P.Pairwise (fun x y => key x < key y) → Q.Pairwise (fun x y => key x < key y) → (∀ x, x ∈ P ↔ x ∈ Q) → P = Q
  | [], [], _, _, _ => rfl
  | [], y :: Q, _, _, h => absurd ((h y).2 (by simp)) (by simp)
  | x :: P, [], _, _, h => absurd ((h x).1 (by simp)) (by simp)
  | x :: P, y :: Q, hp, hq, h => by
    rw [List.pairwise_cons] at hp hq
    have e : x = y := by
      rcases List.mem_cons.1 ((h x).1 (by simp)) with e | hx
      · exact e
      · rcases List.mem_cons.1 ((h y).2 (by simp)) with e | hy
        · exact e.symm
        · have := hq.1 x hx; have := hp.1 y hy; omega
    subst e
    rw [qgm hp.2 hq.2 fun z => ?_]
    constructor
    · intro hz
      rcases List.mem_cons.1 ((h z).1 (by simp [hz])) with e | hz'
      · subst e; have := hp.1 z hz; omega
      · exact hz'
    · intro hz
      rcases List.mem_cons.1 ((h z).2 (by simp [hz])) with e | hz'
      · subst e; have := hq.1 z hz; omega
      · exact hz'
theorem qbd {p : Int} (hp : 2 ≤ p) : ¬ p ∣ 1 := fun h => by
  have := Int.le_of_dvd (by omega) h; omega
theorem qjo {p a b : Int} (ha : 0 ≤ a ∧ a < p) (hb : 0 ≤ b ∧ b < p) (h : p ∣ a - b) : a = b := by
  obtain ⟨k, hk⟩ := h
  have : k = 0 := by
    by_cases h1 : 1 ≤ k
    · have := Int.mul_le_mul_of_nonneg_left h1 (show 0 ≤ p by omega); omega
    · by_cases h2 : k ≤ -1
      · have := Int.mul_le_mul_of_nonneg_left h2 (show 0 ≤ p by omega); omega
      · omega
  subst this; omega
theorem Zc {p : Int} {w : Nat} {r : List Int} (h : r.length = w ∧ ∀ x ∈ r, 0 ≤ x ∧ x < p) (j : Nat) (hj : j < w) : 0 ≤ fn r j ∧ fn r j < p := by
  rw [fn, Zu r j (by omega)]; exact h.2 _ (List.getElem_mem _)
theorem qnu {a b : List Int} {w : Nat} (ha : a.length = w) (hb : b.length = w) (h : ∀ j, j < w → fn a j = fn b j) : a = b := by
  refine List.ext_getElem (by omega) fun j h1 h2 => ?_
  have := h j (by omega)
  rwa [fn, fn, Zu a j h1, Zu b j h2] at this
theorem Rref.heads {p : Int} {w : Nat} {P Q : List (Nat × List Int)} (hp : 2 ≤ p) (h : Rref p w P) (k : Rref p w Q) (hs : ∀ x ∈ P, Sp p w (Q.map Prod.snd) (fn x.2)) {x : Nat × List Int} (hx : x ∈ P) : ∃ y ∈ Q, y.1 = x.1 :=
  k.lead (hs x hx) (h.lt x hx) (fun i hi => by rw [h.low x hx i hi]; exact Int.dvd_zero p) (by rw [h.one x hx]; exact qbd hp)
theorem Rref.unique {p : Int} {w : Nat} {P Q : List (Nat × List Int)} (hp : 2 ≤ p) (h : Rref p w P) (k : Rref p w Q) (hs : ∀ x ∈ P, Sp p w (Q.map Prod.snd) (fn x.2)) (ks : ∀ x ∈ Q, Sp p w (P.map Prod.snd) (fn x.2)) : P = Q := by
  have key : ∀ {P Q : List (Nat × List Int)}, Rref p w P → Rref p w Q → (∀ x ∈ P, Sp p w (Q.map Prod.snd) (fn x.2)) → (∀ x ∈ Q, Sp p w (P.map Prod.snd) (fn x.2)) → ∀ x, x ∈ P → x ∈ Q := by
    intro P Q h k hs ks x hx
    obtain ⟨y, hy, e⟩ := h.heads hp k hs hx
    have e2 : x.2 = y.2 := by
      refine qnu (h.ok x hx).1 (k.ok y hy).1 fun j hj => qjo (Zc (h.ok x hx) j hj) (Zc (k.ok y hy) j hj) ?_
      have h1 := k.coord (hs x hx) j hj
      have h2 : cs Q (fn x.2) j = fn y.2 j := by
        obtain ⟨A, B, e3, ha, hb⟩ := qgl k.inc hy
        have h3 : ∀ z, z ∈ Q → z.1 ≠ y.1 → fn x.2 z.1 * fn z.2 j = 0 := fun z hz hn => by
          obtain ⟨x', hx', e4⟩ := k.heads hp h ks hz
          rw [← e4, h.off x hx x' hx' (by rw [e4, ← e]; exact Ne.symm hn), Int.zero_mul]
        rw [cs]
        conv => lhs; rw [e3]
        rw [qc9 _ y A B (fun z hz => h3 z (by rw [e3]; simp [hz]) (ha z hz)) (fun z hz => h3 z (by rw [e3]; simp [hz]) (hb z hz)), e, h.one x hx, Int.one_mul]
      rwa [h2] at h1
    have : x = y := Prod.ext e.symm e2
    rwa [this]
  exact qgm (key := Prod.fst) h.inc k.inc fun x => ⟨key h k hs ks x, key k h ks hs x⟩
theorem Q9 : ∀ {P Q : List (Nat × List Int)}, P.Pairwise (fun x y => x.1 < y.1) → Q.Pairwise (fun x y => x.1 < y.1) → (∀ x ∈ P, ∃ y ∈ Q, y.1 = x.1) → P.length ≤ Q.length
  | [], _, _, _, _ => by simp
  | x :: P, Q, hp, hq, h => by
    obtain ⟨y, hy, e⟩ := h x (by simp)
    obtain ⟨A, B, rfl⟩ := List.append_of_mem hy
    rw [List.pairwise_cons] at hp
    have hq' := hq
    rw [List.pairwise_append, List.pairwise_cons] at hq
    have hq2 : (A ++ B).Pairwise fun x y => x.1 < y.1 := by
      rw [List.pairwise_append]
      exact ⟨hq.1, hq.2.1.2, fun a ha b hb => hq.2.2 a ha b (by simp [hb])⟩
    have := Q9 hp.2 hq2 fun z hz => by
      obtain ⟨u, hu, e2⟩ := h z (by simp [hz])
      have hne : u.1 ≠ y.1 := by have := hp.1 z hz; omega
      refine ⟨u, ?_, e2⟩
      simp only [List.mem_append, List.mem_cons] at hu ⊢
      rcases hu with hu | rfl | hu
      · exact .inl hu
      · exact absurd rfl hne
      · exact .inr hu
    simp at this ⊢
    omega
theorem Rref.len_le {p : Int} {w : Nat} {P Q : List (Nat × List Int)} (hp : 2 ≤ p) (h : Rref p w P) (k : Rref p w Q) (hs : ∀ x ∈ P, Sp p w (Q.map Prod.snd) (fn x.2)) : P.length ≤ Q.length :=
  Q9 h.inc k.inc fun _ hx => h.heads hp k hs hx
end Go.Proofs.Ytmgbpmihbljngaa.PA
namespace Go.Proofs.Ytmgbpmihbljngaa.PA
open Go.RowKit Go.Proofs.YtmgbpmihbljngaaW.PrintWords Go.Proofs.YtmgbpmihbljngaaW.PrintLast Go.Proofs.YtmgbpmihbljngaaW.PrintMore
set_option linter.unusedVariables false
set_option linter.unusedSimpArgs false
theorem Jf (a p : Int) : p ∣ a - a % p := ⟨a / p, by have := Int.mul_ediv_add_emod a p; omega⟩
theorem qo7 {p t : Int} {h r : List Int} {w : Nat} (hh : h.length = w) (hr : r.length = w) {j : Nat} (hj : j < w) : fn (jq p t h r) j = (fn r j - t * fn h j) % p := qg7 j (by omega) (by omega)
theorem qip {p b : Int} {r : List Int} {w : Nat} (hr : r.length = w) {j : Nat} (hj : j < w) : fn (Qw p b r) j = fn r j * b % p := qii j (by omega)
theorem qnm {α : Type} [Inhabited α] (L : List α) (i : Nat) (d : α) (hi : i < L.length) : L = L.take i ++ L.getD i d :: L.drop (i + 1) ∧ L.eraseIdx i = L.take i ++ L.drop (i + 1) := by
  refine ⟨?_, List.eraseIdx_eq_take_drop_succ L i⟩
  rw [List.getD_eq_getElem?_getD, List.getElem?_eq_getElem hi, Option.getD_some, List.getElem_cons_drop, List.take_append_drop]
theorem qmb {L : List (List Int)} {i : Nat} (hi : i < L.length) {r : List Int} : r ∈ L ↔ r = L.getD i [] ∨ r ∈ L.eraseIdx i := by
  obtain ⟨h1, h2⟩ := qnm L i [] hi
  rw [h2]
  conv => lhs; rw [h1]
  simp only [List.mem_append, List.mem_cons]
  constructor
  · rintro (h | h | h)
    · exact .inr (.inl h)
    · exact .inl h
    · exact .inr (.inr h)
  · rintro (h | h | h)
    · exact .inr (.inl h)
    · exact .inl h
    · exact .inr (.inr h)
theorem qe4 {p : Int} (hp : zh p = true) {w : Nat} : ∀ (d c : Nat) (L : List (List Int)) (P : List (Nat × List Int)), c + d = w → okR p w L → Rref p w P → (∀ x ∈ P, x.1 < c) → qds c L →
    ∃ Q : List (Nat × List Int), redP p d c L (P.map Prod.snd) = Q.map Prod.snd ∧ J0 p d c L (P.map fun x => (x.1 : Int)) = Q.map (fun x => (x.1 : Int)) ∧ Rref p w Q ∧ (∀ r ∈ L ++ P.map Prod.snd, Sp p w (Q.map Prod.snd) (fn r)) ∧ ∀ x ∈ Q, Sp p w (L ++ P.map Prod.snd) (fn x.2)
  | 0, c, L, P, hw, hL, hP, hlt, hz => by
    refine ⟨P, rfl, rfl, hP, fun r hr => ?_, fun x hx => Sp.mem (by simp; exact .inr ⟨_, hx⟩)⟩
    rcases List.mem_append.1 hr with hr | hr
    · exact .zero _ fun j hj => by rw [fn, hz r hr j (by omega)]; exact Int.dvd_zero p
    · exact Sp.mem hr
  | d + 1, c, L, P, hw, hL, hP, hlt, hz => by
    have hb := z5 hp
    rw [redP, J0]
    cases hf : L.findIdx? (fun row => rd row (c : Int) != 0) with
    | none => exact qe4 hp d (c + 1) L P (by omega) hL hP (fun x hx => by have := hlt x hx; omega) (qd7 hz hf)
    | some i =>
      simp only
      obtain ⟨hi, hne⟩ := qc3 hf
      have hx := hL _ (Qt hi)
      have hxr := qd6 hx c (by omega)
      have hne' : rd (L.getD i []) (c : Int) ≠ 0 := by simpa using hne
      have hinv := (Q7 hp hxr.1 hxr.2).2.2.2.1 hne'
      have hs := qbh (p := p) (b := invP p (rd (L.getD i []) (c : Int))) (by omega) hx.1
      have hzn := qd8 hp (by omega) hL hz hf
      obtain ⟨x, hxe⟩ : ∃ x, L.getD i [] = x := ⟨_, rfl⟩
      rw [hxe] at hx hxr hne' hinv hs hzn ⊢
      have hxm : x ∈ L := hxe ▸ Qt hi
      obtain ⟨b, hbe⟩ : ∃ b, invP p (rd x (c : Int)) = b := ⟨_, rfl⟩
      rw [hbe] at hinv hs hzn ⊢
      obtain ⟨h, hhe⟩ : ∃ h, Qw p b x = h := ⟨_, rfl⟩
      have hfh : ∀ j, j < w → fn h j = fn x j * b % p := fun j hj => by rw [← hhe]; exact qip hx.1 hj
      rw [hhe] at hs hzn ⊢
      have hhc : fn h c = 1 := by rw [hfh c (by omega)]; exact hinv
      have hhl : ∀ j, j < c → fn h j = 0 := fun j hj => by rw [hfh j (by omega), fn, hz x hxm j hj]; simp
      have hfl : ∀ r : List Int, r.length = w → ∀ j, j < w → fn (jq p (rd r (c : Int)) h r) j = (fn r j - fn r c * fn h j) % p := fun r hr j hj => qo7 hs.1 hr hj
      have hP' : Rref p w (P.map (fun y => (y.1, jq p (rd y.2 (c : Int)) h y.2)) ++ [(c, h)]) := by
        have hm : ∀ z, z ∈ P.map (fun y => (y.1, jq p (rd y.2 (c : Int)) h y.2)) ++ [(c, h)] → (∃ y ∈ P, z = (y.1, jq p (rd y.2 (c : Int)) h y.2)) ∨ z = (c, h) := by
          intro z hz
          rcases List.mem_append.1 hz with hz | hz
          · obtain ⟨y, hy, rfl⟩ := List.mem_map.1 hz; exact .inl ⟨y, hy, rfl⟩
          · exact .inr (by simpa using hz)
        refine ⟨fun z hz => ?_, fun z hz => ?_, fun z hz => ?_, fun z hz j hj => ?_, fun z hz z' hz' hnn => ?_, ?_⟩
        · rcases hm z hz with ⟨y, hy, rfl⟩ | rfl
          · exact hP.lt y hy
          · show c < w; omega
        · rcases hm z hz with ⟨y, hy, rfl⟩ | rfl
          · exact qeg (by omega) hs.1 (hP.ok y hy).1
          · exact hs
        · rcases hm z hz with ⟨y, hy, rfl⟩ | rfl
          · have h1 := hlt y hy
            show fn (jq p (rd y.2 (c : Int)) h y.2) y.1 = 1
            rw [hfl _ (hP.ok y hy).1 y.1 (by omega), hP.one y hy, hhl y.1 h1, Int.mul_zero, Int.sub_zero, Int.emod_eq_of_lt (by omega) (by omega)]
          · exact hhc
        · rcases hm z hz with ⟨y, hy, rfl⟩ | rfl
          · have h1 := hlt y hy
            have hj' : j < y.1 := hj
            show fn (jq p (rd y.2 (c : Int)) h y.2) j = 0
            rw [hfl _ (hP.ok y hy).1 j (by omega), hP.low y hy j hj', hhl j (by omega)]; simp
          · exact hhl j hj
        · rcases hm z hz with ⟨y, hy, rfl⟩ | rfl
          · rcases hm z' hz' with ⟨y', hy', rfl⟩ | rfl
            · have h1 := hlt y' hy'
              show fn (jq p (rd y.2 (c : Int)) h y.2) y'.1 = 0
              rw [hfl _ (hP.ok y hy).1 y'.1 (by omega), hP.off y hy y' hy' hnn, hhl y'.1 h1]; simp
            · show fn (jq p (rd y.2 (c : Int)) h y.2) c = 0
              rw [hfl _ (hP.ok y hy).1 c (by omega), hhc]; simp
          · rcases hm z' hz' with ⟨y', hy', rfl⟩ | rfl
            · exact hhl y'.1 (hlt y' hy')
            · exact absurd rfl hnn
        · rw [List.pairwise_append]
          refine ⟨?_, by simp, fun a ha b hb => ?_⟩
          · rw [List.pairwise_map]; exact hP.inc
          · obtain ⟨y, hy, rfl⟩ := List.mem_map.1 ha
            have hbe : b = (c, h) := by simpa using hb
            subst hbe
            exact hlt y hy
      have e1 : (P.map Prod.snd).map (fun r => jq p (rd r (c : Int)) h r) ++ [h] = (P.map (fun y => (y.1, jq p (rd y.2 (c : Int)) h y.2)) ++ [(c, h)]).map Prod.snd := by
        simp [List.map_map, Function.comp_def]
      have e2 : (P.map fun x => (x.1 : Int)) ++ [(c : Int)] = (P.map (fun y => (y.1, jq p (rd y.2 (c : Int)) h y.2)) ++ [(c, h)]).map fun x => (x.1 : Int) := by
        simp [List.map_map, Function.comp_def]
      have ih := qe4 hp d (c + 1) ((L.eraseIdx i).map fun r => jq p (rd r (c : Int)) h r) (P.map (fun y => (y.1, jq p (rd y.2 (c : Int)) h y.2)) ++ [(c, h)]) (by omega) (qbr _ (by omega) hs.1 (qbx i hL)) hP' (fun z hz => by
          rcases List.mem_append.1 hz with hz | hz
          · obtain ⟨y, hy, rfl⟩ := List.mem_map.1 hz; have := hlt y hy; show y.1 < c + 1; omega
          · have : z = (c, h) := by simpa using hz
            subst this; show c < c + 1; omega) hzn
      rw [e1, e2]
      obtain ⟨Q, hq1, hq2, hQ, hq3, hq4⟩ := ih
      have hold : ∀ r, r ∈ L ++ P.map Prod.snd → r.length = w := fun r hr => by
        rcases List.mem_append.1 hr with hr | hr
        · exact (hL r hr).1
        · obtain ⟨y, hy, rfl⟩ := List.mem_map.1 hr; exact (hP.ok y hy).1
      have hxs : ∀ j, j < w → p ∣ fn x j - fn x c * fn h j := fun j hj => by
        have h1 := Jf (fn x j * b) p
        rw [← hfh j hj] at h1
        have h2 : p ∣ fn x c * b - 1 := by
          have := Jf (fn x c * b) p
          rw [show fn x c * b % p = 1 from hinv] at this; exact this
        exact Zo (fn x c) (-(fn x j)) h1 h2 (by grind)
      have hnewm : ∀ r, r ∈ L.eraseIdx i ++ P.map Prod.snd → jq p (rd r (c : Int)) h r ∈ ((L.eraseIdx i).map fun r => jq p (rd r (c : Int)) h r) ++ (P.map (fun y => (y.1, jq p (rd y.2 (c : Int)) h y.2)) ++ [(c, h)]).map Prod.snd := fun r hr => by
        rcases List.mem_append.1 hr with hr | hr
        · exact List.mem_append_left _ (List.mem_map_of_mem hr)
        · obtain ⟨y, hy, rfl⟩ := List.mem_map.1 hr
          refine List.mem_append_right _ (List.mem_map.2 ⟨(y.1, jq p (rd y.2 (c : Int)) h y.2), List.mem_append_left _ (List.mem_map.2 ⟨y, hy, rfl⟩), rfl⟩)
      have hhm : h ∈ ((L.eraseIdx i).map fun r => jq p (rd r (c : Int)) h r) ++ (P.map (fun y => (y.1, jq p (rd y.2 (c : Int)) h y.2)) ++ [(c, h)]).map Prod.snd :=
        List.mem_append_right _ (List.mem_map.2 ⟨(c, h), by simp, rfl⟩)
      have hto : ∀ r, r ∈ L ++ P.map Prod.snd → Sp p w (((L.eraseIdx i).map fun r => jq p (rd r (c : Int)) h r) ++ (P.map (fun y => (y.1, jq p (rd y.2 (c : Int)) h y.2)) ++ [(c, h)]).map Prod.snd) (fn r) := fun r hr => by
        have hcase : r = x ∨ r ∈ L.eraseIdx i ++ P.map Prod.snd := by
          rcases List.mem_append.1 hr with hr | hr
          · rcases (qmb hi).1 hr with h1 | h1
            · exact .inl (h1.trans hxe)
            · exact .inr (List.mem_append_left _ h1)
          · exact .inr (List.mem_append_right _ hr)
        rcases hcase with rfl | hr2
        · exact ((Sp.mem hhm).scale (fn r c)).congr hxs
        · refine ((Sp.mem (hnewm r hr2)).sum ((Sp.mem hhm).scale (fn r c))).congr fun j hj => ?_
          rw [hfl r (hold r hr) j hj]
          exact Zh 1 (Jf (fn r j - fn r c * fn h j) p) (by omega)
      have hfrom_h : Sp p w (L ++ P.map Prod.snd) (fn h) := ((Sp.mem (List.mem_append_left _ hxm)).scale b).congr fun j hj => by
        rw [hfh j hj]
        exact Zh (-1) (Jf (fn x j * b) p) (by rw [Int.mul_comm b]; omega)
      have hfrom : ∀ r, r ∈ ((L.eraseIdx i).map fun r => jq p (rd r (c : Int)) h r) ++ (P.map (fun y => (y.1, jq p (rd y.2 (c : Int)) h y.2)) ++ [(c, h)]).map Prod.snd → Sp p w (L ++ P.map Prod.snd) (fn r) := fun r hr => by
        have hcase : r = h ∨ ∃ q, q ∈ L ++ P.map Prod.snd ∧ r = jq p (rd q (c : Int)) h q := by
          rcases List.mem_append.1 hr with hr | hr
          · obtain ⟨q, hq, rfl⟩ := List.mem_map.1 hr
            exact .inr ⟨q, List.mem_append_left _ (List.mem_of_mem_eraseIdx hq), rfl⟩
          · obtain ⟨z, hz, rfl⟩ := List.mem_map.1 hr
            rcases List.mem_append.1 hz with hz | hz
            · obtain ⟨y, hy, rfl⟩ := List.mem_map.1 hz
              exact .inr ⟨y.2, List.mem_append_right _ (List.mem_map_of_mem hy), rfl⟩
            · have : z = (c, h) := by simpa using hz
              subst this; exact .inl rfl
        rcases hcase with rfl | ⟨q, hq, rfl⟩
        · exact hfrom_h
        · refine ((Sp.mem hq).sum (hfrom_h.scale (-(fn q c)))).congr fun j hj => ?_
          rw [hfl q (hold q hq) j hj]
          exact Zh (-1) (Jf (fn q j - fn q c * fn h j) p) (by grind)
      exact ⟨Q, hq1, hq2, hQ, fun r hr => Sp.sub hq3 (hto r hr), fun z hz => Sp.sub hfrom (hq4 z hz)⟩
theorem qaq {p : Int} (hp : zh p = true) {w : Nat} {L : List (List Int)} (hL : okR p w L) :
    ∃ Q : List (Nat × List Int), redP p w 0 L [] = Q.map Prod.snd ∧ J0 p w 0 L [] = Q.map (fun x => (x.1 : Int)) ∧ Rref p w Q ∧ (∀ r ∈ L, Sp p w (Q.map Prod.snd) (fn r)) ∧ ∀ x ∈ Q, Sp p w L (fn x.2) := by
  have h := qe4 hp w 0 L [] (by omega) hL ⟨by simp, by simp, by simp, by simp, by simp, by simp⟩ (by simp) (fun r _ j hj => absurd hj (by omega))
  simpa using h
end Go.Proofs.Ytmgbpmihbljngaa.PA
namespace Go.Proofs.Ytmgbpmihbljngaa.PA
open Go.RowKit Go.Proofs.YtmgbpmihbljngaaW.PrintWords Go.Proofs.YtmgbpmihbljngaaW.PrintLast Go.Proofs.YtmgbpmihbljngaaW.PrintMore
set_option linter.unusedVariables false
set_option linter.unusedSimpArgs false
def Jt (p : Int) (w : Nat) (L : List (List Int)) : List (Nat × List Int) := ((J0 p w 0 L []).map Int.toNat).zip (redP p w 0 L [])
theorem qh8 {α β : Type} (f : Nat × List Int → α) (g : Nat × List Int → β) : ∀ Q : List (Nat × List Int), (Q.map f).zip (Q.map g) = Q.map fun x => (f x, g x)
  | [] => rfl
  | x :: Q => by rw [List.map_cons, List.map_cons, List.zip_cons_cons, qh8 f g Q, List.map_cons]
theorem qac {p : Int} (hp : zh p = true) {w : Nat} {L : List (List Int)} (hL : okR p w L) :
    redP p w 0 L [] = (Jt p w L).map Prod.snd ∧ J0 p w 0 L [] = (Jt p w L).map (fun x => (x.1 : Int)) ∧ Rref p w (Jt p w L) ∧ (∀ r ∈ L, Sp p w ((Jt p w L).map Prod.snd) (fn r)) ∧ ∀ x ∈ Jt p w L, Sp p w L (fn x.2) := by
  obtain ⟨Q, e1, e2, hQ, h1, h2⟩ := qaq hp hL
  have e : Jt p w L = Q := by
    rw [Jt, e1, e2, List.map_map, qh8]
    simp
  rw [e]
  exact ⟨e1, e2, hQ, h1, h2⟩
def Q5 (p : Int) (c : Nat) : List (Nat × List Int) → List Int → List Int
  | [], v => v
  | z :: P, v => Q5 p c P (v.set z.1 ((-(fn z.2 c)) % p))
def Qn (p : Int) (w : Nat) (P : List (Nat × List Int)) (c : Nat) : List Int := Q5 p c P ((List.replicate w 0).set c 1)
def jz (P : List (Nat × List Int)) (c : Nat) : Bool := !(P.any fun z => z.1 == c)
def Zk (p : Int) (w : Nat) (P : List (Nat × List Int)) : List (List Int) := ((List.range w).filter (jz P)).map (Qn p w P)
def Q1 (p : Int) (w : Nat) (L : List (List Int)) : List (List Int) := redP p w 0 (Zk p w (Jt p w L)) []
theorem qda (p : Int) (c : Nat) : ∀ (P : List (Nat × List Int)) (v : List Int), (Q5 p c P v).length = v.length
  | [], _ => rfl
  | z :: P, v => by rw [Q5, qda p c P, List.length_set]
theorem qhc (v : List Int) (i j : Nat) (x : Int) (hi : i < v.length) : fn (v.set i x) j = if j = i then x else fn v j := by
  by_cases e : j = i
  · subst e; simp [fn, rd, List.getD_eq_getElem?_getD, hi]
  · rw [if_neg e]; simp [fn, rd, List.getD_eq_getElem?_getD, List.getElem?_set_ne (Ne.symm e)]
theorem qaz (p : Int) (c : Nat) : ∀ (P : List (Nat × List Int)) (v : List Int) (j : Nat), (∀ z ∈ P, z.1 < v.length) → (∀ z ∈ P, z.1 ≠ j) → fn (Q5 p c P v) j = fn v j
  | [], _, _, _, _ => rfl
  | z :: P, v, j, hl, h => by
    rw [Q5, qaz p c P _ j (fun y hy => by rw [List.length_set]; exact hl y (by simp [hy])) (fun y hy => h y (by simp [hy])), qhc v z.1 j _ (hl z (by simp)), if_neg (Ne.symm (h z (by simp)))]
theorem qdy (p : Int) (c : Nat) : ∀ (P : List (Nat × List Int)) (v : List Int) (x : Nat × List Int), (∀ z ∈ P, z.1 < v.length) → P.Pairwise (fun x y => x.1 < y.1) → x ∈ P → fn (Q5 p c P v) x.1 = (-(fn x.2 c)) % p
  | [], _, _, _, _, h => absurd h (by simp)
  | z :: P, v, x, hl, hi, h => by
    rw [List.pairwise_cons] at hi
    have hl2 : ∀ y ∈ P, y.1 < (v.set z.1 ((-(fn z.2 c)) % p)).length := fun y hy => by rw [List.length_set]; exact hl y (by simp [hy])
    rw [Q5]
    rcases List.mem_cons.1 h with rfl | hx
    · rw [qaz p c P _ x.1 hl2 (fun y hy => Nat.ne_of_gt (hi.1 y hy)), qhc v x.1 x.1 _ (hl x (by simp)), if_pos rfl]
    · exact qdy p c P _ x hl2 hi.2 hx
theorem qcf {p : Int} {w : Nat} {P : List (Nat × List Int)} (h : Rref p w P) (c : Nat) {x : Nat × List Int} (hx : x ∈ P) : fn (Qn p w P c) x.1 = (-(fn x.2 c)) % p :=
  qdy p c P _ x (fun z hz => by simpa using h.lt z hz) h.inc hx
theorem Z6 {p : Int} {w : Nat} {P : List (Nat × List Int)} (h : Rref p w P) {c j : Nat} (hc : c < w) (hj : ∀ z ∈ P, z.1 ≠ j) : fn (Qn p w P c) j = if j = c then 1 else 0 := by
  rw [Qn, qaz p c P _ j (fun z hz => by simpa using h.lt z hz) hj, qhc _ c j _ (by simpa using hc)]
  by_cases e : j = c
  · rw [if_pos e, if_pos e]
  · rw [if_neg e, if_neg e]
    by_cases hw : j < w <;> simp [fn, rd, List.getD_eq_getElem?_getD, hw]
theorem qid (p : Int) (w : Nat) (P : List (Nat × List Int)) (c : Nat) : (Qn p w P c).length = w := by simp [Qn, qda]
theorem J7 {p : Int} (hp : 2 ≤ p) {w : Nat} {P : List (Nat × List Int)} (h : Rref p w P) : okR p w (Zk p w P) := fun r hr => by
  obtain ⟨c, hc, rfl⟩ := List.mem_map.1 hr
  have hcw : c < w := by have := (List.mem_filter.1 hc).1; simpa using this
  refine ⟨qid p w P c, fun y hy => ?_⟩
  obtain ⟨j, hj, rfl⟩ := List.mem_iff_getElem.1 hy
  have e : (Qn p w P c)[j] = fn (Qn p w P c) j := by rw [fn, Zu _ j hj]
  rw [e]
  by_cases hex : ∃ x ∈ P, x.1 = j
  · obtain ⟨x, hx, rfl⟩ := hex
    rw [qcf h c hx]
    exact ⟨Int.emod_nonneg _ (by omega), Int.emod_lt_of_pos _ (by omega)⟩
  · rw [Z6 h hcw (fun z hz e => hex ⟨z, hz, e⟩)]
    split <;> omega
end Go.Proofs.Ytmgbpmihbljngaa.PA
namespace Go.Proofs.Ytmgbpmihbljngaa.PA
open Go.RowKit Go.Proofs.YtmgbpmihbljngaaW.PrintWords Go.Proofs.YtmgbpmihbljngaaW.PrintLast Go.Proofs.YtmgbpmihbljngaaW.PrintMore
set_option linter.unusedVariables false
set_option linter.unusedSimpArgs false
def dt (w : Nat) (u v : Nat → Int) : Int := ((List.range w).map fun j => u j * v j).sum
theorem qhj {α : Type} (f g : α → Int) (t : Int) : ∀ l : List α, (l.map fun x => f x + t * g x).sum = (l.map f).sum + t * (l.map g).sum
  | [] => by simp
  | x :: l => by
    rw [List.map_cons, List.map_cons, List.map_cons, List.sum_cons, List.sum_cons, List.sum_cons, qhj f g t l, Int.mul_add]; omega
theorem qfl {p : Int} {α : Type} (f g : α → Int) : ∀ l : List α, (∀ x ∈ l, p ∣ f x - g x) → p ∣ (l.map f).sum - (l.map g).sum
  | [], _ => by simp
  | x :: l, h => by
    rw [List.map_cons, List.map_cons, List.sum_cons, List.sum_cons]
    exact Zo 1 1 (h x (by simp)) (qfl f g l fun y hy => h y (by simp [hy])) (by omega)
theorem qkv {p : Int} {w : Nat} {u u' v v' : Nat → Int} (hu : ∀ j, j < w → p ∣ u j - u' j) (hv : ∀ j, j < w → p ∣ v j - v' j) : p ∣ dt w u v - dt w u' v' :=
  qfl _ _ _ fun j hj => by
    have hj' : j < w := by simpa using hj
    exact Zo (v j) (u' j) (hu j hj') (hv j hj') (by grind)
theorem qno {p : Int} {w : Nat} {L : List (List Int)} {v : Nat → Int} (h : ∀ r ∈ L, p ∣ dt w (fn r) v) {u : Nat → Int} (hu : Sp p w L u) : p ∣ dt w u v := by
  induction hu with
  | zero u hz =>
    refine qel _ fun y hy => ?_
    obtain ⟨j, hj, rfl⟩ := List.mem_map.1 hy
    exact Int.dvd_mul_of_dvd_left (hz j (by simpa using hj))
  | add u u' r t hr _ h2 ih =>
    have h3 := qkv (v := v) (v' := v) h2 (fun j _ => by simp)
    have e : dt w (fun j => u' j + t * fn r j) v = dt w u' v + t * dt w (fn r) v := by
      rw [dt, dt, dt, ← qhj]
      congr 1
      exact List.map_congr_left fun j _ => by grind
    rw [e] at h3
    exact Zo 1 1 h3 (Zo 1 t ih (h r hr) rfl) (by omega)
theorem qh1 {α : Type} (f : α → Int) (q : α → Bool) : ∀ l : List α, (l.map f).sum = ((l.filter q).map f).sum + ((l.filter fun x => !q x).map f).sum
  | [] => rfl
  | x :: l => by
    have ih := qh1 f q l
    cases h : q x <;> simp [h, ih] <;> omega
theorem qas {P : List (Nat × List Int)} {c : Nat} (h : jz P c = true) : ∀ z ∈ P, z.1 ≠ c := fun z hz e => by
  have : P.any (fun z => z.1 == c) = true := List.any_eq_true.2 ⟨z, hz, by simp [e]⟩
  rw [jz, this] at h; simp at h
theorem qc2 {P : List (Nat × List Int)} {c : Nat} (h : ¬ ∃ z ∈ P, z.1 = c) : jz P c = true := by
  rw [jz]
  cases h2 : P.any (fun z => z.1 == c) with
  | false => rfl
  | true =>
    obtain ⟨z, hz, e⟩ := List.any_eq_true.1 h2
    exact absurd ⟨z, hz, by simpa using e⟩ h
theorem qbl {l : List Nat} (hn : l.Nodup) {x : Nat} (hx : x ∈ l) : ∃ A B, l = A ++ x :: B ∧ (∀ y ∈ A, y ≠ x) ∧ ∀ y ∈ B, y ≠ x := by
  obtain ⟨A, B, rfl⟩ := List.append_of_mem hx
  rw [List.nodup_append, List.nodup_cons] at hn
  exact ⟨A, B, rfl, fun y hy e => hn.2.2 y hy x (by simp) e, fun y hy e => hn.2.1.1 (e ▸ hy)⟩
theorem qj9 {p : Int} {w : Nat} {P : List (Nat × List Int)} (h : Rref p w P) {x : Nat × List Int} (hx : x ∈ P) (v : Nat → Int) : dt w (fn x.2) v = v x.1 + (((List.range w).filter (jz P)).map fun c => fn x.2 c * v c).sum := by
  rw [dt, qh1 _ (jz P)]
  have hm : x.1 ∈ (List.range w).filter fun c => !jz P c := by
    rw [List.mem_filter]
    refine ⟨by simpa using h.lt x hx, ?_⟩
    cases hf : jz P x.1 with
    | false => rfl
    | true => exact absurd rfl (qas hf x hx)
  obtain ⟨A, B, e, ha, hb⟩ := qbl (List.Nodup.sublist List.filter_sublist List.nodup_range) hm
  have hz : ∀ c, c ∈ (List.range w).filter (fun c => !jz P c) → c ≠ x.1 → fn x.2 c * v c = 0 := fun c hc hne => by
    have hnf : jz P c = false := by have := (List.mem_filter.1 hc).2; simpa using this
    have hex : ∃ z ∈ P, z.1 = c := by
      by_cases he : ∃ z ∈ P, z.1 = c
      · exact he
      · rw [qc2 he] at hnf; simp at hnf
    obtain ⟨z, hz, rfl⟩ := hex
    rw [h.off x hx z hz (Ne.symm hne), Int.zero_mul]
  have h1 := qc9 (fun c => fn x.2 c * v c) x.1 A B (fun y hy => hz y (by rw [e]; simp [hy]) (ha y hy)) (fun y hy => hz y (by rw [e]; simp [hy]) (hb y hy))
  rw [e, h1, h.one x hx]; omega
theorem qje {p : Int} {w : Nat} {P : List (Nat × List Int)} (h : Rref p w P) {x : Nat × List Int} (hx : x ∈ P) {r : List Int} (hr : r ∈ Zk p w P) : p ∣ dt w (fn x.2) (fn r) := by
  obtain ⟨c, hc, rfl⟩ := List.mem_map.1 hr
  have hcw : c < w := by have := (List.mem_filter.1 hc).1; simpa using this
  rw [qj9 h hx, qcf h c hx]
  obtain ⟨A, B, e, ha, hb⟩ := qbl (List.Nodup.sublist List.filter_sublist List.nodup_range) hc
  have hz : ∀ j, j ∈ (List.range w).filter (jz P) → j ≠ c → fn x.2 j * fn (Qn p w P c) j = 0 := fun j hj hne => by
    rw [Z6 h hcw (qas (List.mem_filter.1 hj).2), if_neg hne, Int.mul_zero]
  have h1 := qc9 (fun j => fn x.2 j * fn (Qn p w P c) j) c A B (fun y hy => hz y (by rw [e]; simp [hy]) (ha y hy)) (fun y hy => hz y (by rw [e]; simp [hy]) (hb y hy))
  rw [e, h1, Z6 h hcw (qas (List.mem_filter.1 hc).2), if_pos rfl]
  exact Zh (-1) (Jf (-(fn x.2 c)) p) (by omega)
theorem qf6 {p : Int} {w : Nat} {P : List (Nat × List Int)} (h : Rref p w P) {v : Nat → Int} (hv : ∀ x ∈ P, p ∣ dt w (fn x.2) v) : Sp p w (Zk p w P) v := by
  have hsp : ∀ l : List Nat, (∀ c ∈ l, c ∈ (List.range w).filter (jz P)) → Sp p w (Zk p w P) fun j => (l.map fun c => v c * fn (Qn p w P c) j).sum := by
    intro l
    induction l with
    | nil => intro _; exact .zero _ fun j _ => by simp
    | cons c l ih =>
      intro hl
      exact .add _ _ (Qn p w P c) (v c) (List.mem_map.2 ⟨c, hl c (by simp), rfl⟩) (ih fun d hd => hl d (by simp [hd])) fun j _ => by
        rw [List.map_cons, List.sum_cons]; exact ⟨0, by omega⟩
  refine (hsp _ fun c hc => hc).congr fun j hj => ?_
  by_cases hex : ∃ x ∈ P, x.1 = j
  · obtain ⟨x, hx, rfl⟩ := hex
    have h1 := hv x hx
    rw [qj9 h hx] at h1
    have h2 : p ∣ (((List.range w).filter (jz P)).map fun c => v c * fn (Qn p w P c) x.1).sum - (((List.range w).filter (jz P)).map fun c => 0 + (-1) * (fn x.2 c * v c)).sum := by
      refine qfl _ _ _ fun c hc => ?_
      rw [qcf h c hx]
      exact Zh (-(v c)) (Jf (-(fn x.2 c)) p) (by grind)
    have e3 : (((List.range w).filter (jz P)).map fun c => 0 + (-1) * (fn x.2 c * v c)).sum = (-1) * (((List.range w).filter (jz P)).map fun c => fn x.2 c * v c).sum := by
      have := qhj (fun _ : Nat => (0 : Int)) (fun c => fn x.2 c * v c) (-1) ((List.range w).filter (jz P))
      rw [this]
      have hz : ∀ l : List Nat, (l.map fun _ => (0 : Int)).sum = 0 := fun l => by induction l with
        | nil => rfl
        | cons a l ih => simpa using ih
      rw [hz]; omega
    rw [e3] at h2
    exact Zo 1 (-1) h1 h2 (by omega)
  · have hjf : j ∈ (List.range w).filter (jz P) := List.mem_filter.2 ⟨by simpa using hj, qc2 hex⟩
    obtain ⟨A, B, e, ha, hb⟩ := qbl (List.Nodup.sublist List.filter_sublist List.nodup_range) hjf
    have hz : ∀ c, c ∈ (List.range w).filter (jz P) → c ≠ j → v c * fn (Qn p w P c) j = 0 := fun c hc hne => by
      have hcw : c < w := by have := (List.mem_filter.1 hc).1; simpa using this
      rw [Z6 h hcw (fun z hz e => hex ⟨z, hz, e⟩), if_neg (Ne.symm hne), Int.mul_zero]
    have h1 := qc9 (fun c => v c * fn (Qn p w P c) j) j A B (fun y hy => hz y (by rw [e]; simp [hy]) (ha y hy)) (fun y hy => hz y (by rw [e]; simp [hy]) (hb y hy))
    show p ∣ v j - (((List.range w).filter (jz P)).map fun c => v c * fn (Qn p w P c) j).sum
    rw [e, h1, Z6 h hj (fun z hz e => hex ⟨z, hz, e⟩), if_pos rfl]
    exact ⟨0, by omega⟩
theorem qiz {p : Int} {w : Nat} {P : List (Nat × List Int)} (h : Rref p w P) (hl : P.length < w) : ∃ c, c < w ∧ jz P c = true := by
  by_cases hex : ∃ c, c < w ∧ jz P c = true
  · exact hex
  · exfalso
    have h1 := Q9 (P := (List.range w).map fun c => (c, ([] : List Int))) (Q := P) (by rw [List.pairwise_map]; exact List.pairwise_lt_range) h.inc (fun x hx => by
      obtain ⟨c, hc, rfl⟩ := List.mem_map.1 hx
      have hcw : c < w := by simpa using hc
      by_cases he : ∃ z ∈ P, z.1 = c
      · exact he
      · exact absurd ⟨c, hcw, qc2 he⟩ hex)
    simp at h1
    omega
end Go.Proofs.Ytmgbpmihbljngaa.PA
namespace Go.Proofs.Ytmgbpmihbljngaa.PA
open Go.RowKit Go.Proofs.YtmgbpmihbljngaaW.PrintWords Go.Proofs.YtmgbpmihbljngaaW.PrintLast Go.Proofs.YtmgbpmihbljngaaW.PrintMore
set_option linter.unusedVariables false
set_option linter.unusedSimpArgs false
theorem qlq (P : List (Nat × List Int)) (i : Nat) (hi : i < P.length) : jl (P.map Prod.snd) (i : Int) = (P[i]).2 := by
  simp [jl, List.getD_eq_getElem?_getD, hi]
theorem qgn (P : List (Nat × List Int)) (i : Nat) (hi : i < P.length) : rd (P.map fun x => (x.1 : Int)) (i : Int) = ((P[i]).1 : Int) := by
  simp [rd, List.getD_eq_getElem?_getD, hi]
theorem qew {p : Int} {w : Nat} {P : List (Nat × List Int)} (h : Rref p w P) : P.length ≤ w := by
  have h1 := Q9 (P := P) (Q := (List.range w).map fun c => (c, ([] : List Int))) h.inc (by rw [List.pairwise_map]; exact List.pairwise_lt_range) (fun x hx => ⟨(x.1, []), List.mem_map.2 ⟨x.1, by simpa using h.lt x hx, rfl⟩, rfl⟩)
  simpa using h1
theorem s_neg {p : Int} (hp : zh p = true) {x : Int} (h0 : 0 ≤ x) (h1 : x < p) : jo.f p (wrap64 (-x)) = some ((-x) % p) := by
  have hb := z5 hp
  rw [qat p _ (by omega), Zj ⟨by omega, by omega⟩ (by omega) (by omega)]
theorem qik {p : Int} (hp : zh p = true) {w : Nat} (hw : w ≤ 1000) {P : List (Nat × List Int)} (h : Rref p w P) {c q : Nat} (hc : c < w) {O : List (List Int)} (hO : O.length ≤ 1000) {R : List (List Int)} : ∀ (d i : Nat) (v V : List Int), i + d = P.length → v.length = w → Q5 p c (P.drop i) v = V →
    Ev (fun k => qn.l0 k p (w : Int) (P.map Prod.snd) (P.map fun x => (x.1 : Int)) (O ++ [V]) (q : Int) ((c + 1 : Nat) : Int)) R →
    Ev (fun k => qn.l1 k p (w : Int) (P.map Prod.snd) (P.map fun x => (x.1 : Int)) O (q : Int) (c : Int) v (i : Int)) R
  | 0, i, v, V, e, hv, hV, hend => by
    rw [List.drop_eq_nil_of_le (by omega), Q5] at hV
    subst hV
    refine Ev.step (fun k => by rw [qn.l1, if_neg (by rw [List.length_map]; omega), if_pos (by omega), wsm (by omega) (by omega)]) ?_
    simpa using hend
  | d + 1, i, v, V, e, hv, hV, hend => by
    have hi : i < P.length := by omega
    have hle := qew h
    have hm := List.getElem_mem hi
    have hlen := (h.ok _ hm).1
    have hlt := h.lt _ hm
    have hr := Zc (h.ok _ hm) c hc
    rw [fn] at hr
    rw [List.drop_eq_getElem_cons hi, Q5] at hV
    refine Ev.step (fun k => by rw [qn.l1, if_pos (by rw [List.length_map]; omega), if_pos (by omega), if_pos (by rw [List.length_map]; omega), if_pos (by omega), qlq P i hi, if_pos (by omega), qgn P i hi, s_neg hp hr.1 hr.2]) ?_
    refine Ev.bind (a := (-(rd (P[i]).2 (c : Int))) % p) (Ev.now _) (Ev.yes (by omega) (Ev.yes (by omega) ?_))
    have ih := qik hp hw h hc hO d (i + 1) (v.set (P[i]).1 ((-(rd (P[i]).2 (c : Int))) % p)) V (by omega) (by rw [List.length_set]; exact hv) hV hend
    rw [wsm (by omega) (by omega)]
    simpa using ih
theorem qmm {P : List (Nat × List Int)} {c q : Nat} (h1 : ∀ j : Nat, ∀ hj : j < P.length, j < q → (P[j]).1 < c) (h2 : ∀ j : Nat, ∀ hj : j < P.length, q ≤ j → c < (P[j]).1) : jz P c = true := qc2 (by
  rintro ⟨z, hz, e⟩
  obtain ⟨j, hj, rfl⟩ := List.mem_iff_getElem.1 hz
  rcases Nat.lt_or_ge j q with h | h
  · have := h1 j hj h; omega
  · have := h2 j hj h; omega)
theorem qdk {p : Int} (hp : zh p = true) {w : Nat} (hw : w ≤ 1000) {P : List (Nat × List Int)} (h : Rref p w P) : ∀ (d c q : Nat) (O : List (List Int)), c + d = w → q ≤ P.length → (∀ j : Nat, ∀ hj : j < P.length, j < q → (P[j]).1 < c) → (∀ j : Nat, ∀ hj : j < P.length, q ≤ j → c ≤ (P[j]).1) → O = (((List.range c).filter (jz P)).map (Qn p w P)) →
    Ev (fun k => qn.l0 k p (w : Int) (P.map Prod.snd) (P.map fun x => (x.1 : Int)) O (q : Int) (c : Int)) (redP p w 0 (Zk p w P) [])
  | 0, c, q, O, e, hq, h1, h2, hO => by
    obtain rfl : c = w := by omega
    have hb := z5 hp
    refine Ev.step (fun k => by rw [qn.l0, if_neg (by omega)]) ?_
    have hlen : O.length < 1000000 := by
      rw [hO, List.length_map]
      have := List.length_filter_le (jz P) (List.range c)
      simp at this; omega
    have hok := J7 (p := p) (by omega) h
    subst hO
    exact Ev.bind (qd9 hp hw _ hok hlen) (Ev.now _)
  | d + 1, c, q, O, e, hq, h1, h2, hO => by
    have hle := qew h
    have hOl : O.length ≤ 1000 := by
      rw [hO, List.length_map]
      have := List.length_filter_le (jz P) (List.range c)
      simp at this; omega
    have hsucc : (List.range (c + 1)).filter (jz P) = (List.range c).filter (jz P) ++ (if jz P c = true then [c] else []) := by
      rw [List.range_succ, List.filter_append]
      congr 1
      cases hf : jz P c <;> simp [hf]
    have hnot : (∀ j : Nat, ∀ hj : j < P.length, q ≤ j → c < (P[j]).1) → Ev (fun k => qn.j1 k p (w : Int) (P.map Prod.snd) (P.map fun x => (x.1 : Int)) O (q : Int) (c : Int) false) (redP p w 0 (Zk p w P) []) := fun h3 => by
      have hf := qmm h1 h3
      refine Ev.step (fun k => by rw [qn.j1, if_neg (by simp)]) ?_
      refine (Ev.yes (by omega) (Ev.yes (by omega) (Ev.bind (a := List.replicate w 0) (by simpa using Ev.now (List.replicate w (0 : Int))) (Ev.yes (by omega) (Ev.yes (by simp; omega) ?_)))))
      have hend := qdk hp hw h d (c + 1) q (O ++ [Qn p w P c]) (by omega) hq (fun j hj hjq => by have := h1 j hj hjq; omega) (fun j hj hjq => by have := h3 j hj hjq; omega) (by rw [hsucc, hf, hO]; simp)
      have := qik hp hw h (c := c) (q := q) (by omega) hOl (R := redP p w 0 (Zk p w P) []) P.length 0 ((List.replicate w 0).set c 1) (Qn p w P c) (by omega) (by simp) (by rw [List.drop_zero]; rfl) hend
      simpa using this
    by_cases hql : q < P.length
    · refine Ev.step (fun k => by rw [qn.l0, if_pos (by omega), if_pos (by rw [List.length_map]; omega), if_pos (by omega), qgn P q hql]) ?_
      by_cases hh : (P[q]).1 = c
      · rw [show (((P[q]).1 : Int) == (c : Int)) = true from by simp [hh]]
        have hf : jz P c = false := by
          cases hf : jz P c with
          | false => rfl
          | true => exact absurd hh (qas hf _ (List.getElem_mem hql))
        refine Ev.step (fun k => by rw [qn.j1, if_pos rfl]) ?_
        rw [wsm (by omega) (by omega), wsm (by omega) (by omega)]
        refine qdk hp hw h d (c + 1) (q + 1) O (by omega) (by omega) (fun j hj hjq => ?_) (fun j hj hjq => ?_) (by rw [hsucc, hf, hO]; simp)
        · rcases Nat.lt_succ_iff_lt_or_eq.1 hjq with h3 | h3
          · have := h1 j hj h3; omega
          · subst h3; omega
        · have hlt : q < j := by omega
          have := (List.pairwise_iff_getElem.1 h.inc) q j hql hj hlt
          omega
      · rw [show (((P[q]).1 : Int) == (c : Int)) = false from by simp; omega]
        refine hnot fun j hj hjq => ?_
        have hq2 := h2 q hql (Nat.le_refl _)
        rcases Nat.lt_or_ge q j with h3 | h3
        · have := (List.pairwise_iff_getElem.1 h.inc) q j hql hj h3
          omega
        · obtain rfl : j = q := by omega
          omega
    · refine Ev.step (fun k => by rw [qn.l0, if_pos (by omega), if_neg (by rw [List.length_map]; omega)]) ?_
      exact hnot fun j hj hjq => by omega
theorem qgi {p : Int} (hp : zh p = true) {w : Nat} (hw : w ≤ 1000) (L : List (List Int)) (hl : L.length < 1000000) (hL : okR p w L) : Ev (fun k => qn.f k p L (w : Int)) (Q1 p w L) := by
  obtain ⟨e1, e2, hP, _, _⟩ := qac hp hL
  unfold qn.f
  refine Ev.bind (qd9 hp hw L hL hl) ?_
  rw [e1, e2]
  have h := qdk (p := p) hp hw hP w 0 0 [] (by omega) (by omega) (fun j hj hjq => absurd hjq (by omega)) (fun j hj _ => by omega) (by simp)
  simpa [Q1] using h
end Go.Proofs.Ytmgbpmihbljngaa.PA
namespace Go.Proofs.Ytmgbpmihbljngaa.PA
open Go.RowKit Go.Proofs.YtmgbpmihbljngaaW.PrintWords Go.Proofs.YtmgbpmihbljngaaW.PrintLast Go.Proofs.YtmgbpmihbljngaaW.PrintMore
set_option linter.unusedVariables false
set_option linter.unusedSimpArgs false
def sqR (p : Int) (t : Int × Int × Int) : List Int := [t.1 * t.1 % p, t.1 * t.2.1 % p, t.1 * t.2.2 % p, t.2.1 * t.2.1 % p, t.2.1 * t.2.2 % p, t.2.2 * t.2.2 % p]
theorem sqR_ok {p : Int} (hp : zh p = true) (t : Int × Int × Int) : (sqR p t).length = 6 ∧ ∀ x ∈ sqR p t, 0 ≤ x ∧ x < p := by
  have hb := z5 hp
  have hm : ∀ y : Int, 0 ≤ y % p ∧ y % p < p := fun y => ⟨Int.emod_nonneg _ (by omega), Int.emod_lt_of_pos _ (by omega)⟩
  refine ⟨rfl, fun x hx => ?_⟩
  simp only [sqR, List.mem_cons, List.not_mem_nil, or_false] at hx
  rcases hx with rfl | rfl | rfl | rfl | rfl | rfl <;> exact hm _
theorem sq_ok {p : Int} (hp : zh p = true) (Q : List (Int × Int × Int)) : okR p 6 (Q.map (sqR p)) := fun r hr => by
  obtain ⟨t, _, rfl⟩ := List.mem_map.1 hr
  exact sqR_ok hp t
theorem qhi {p : Int} (hp : 7 ≤ p ∧ p ≤ 31) (a : Int × Int × Int) (ha : inP p a) : js.f p a.1 a.2.1 a.2.2 = some (sqR p a) := by
  obtain ⟨a0, a1, a2⟩ := ha
  have m : ∀ {x y : Int}, (0 ≤ x ∧ x < p) → (0 ≤ y ∧ y < p) → Int.tmod (wrap64 (x * y)) p = x * y % p := fun hx hy => by
    have := j7 hp hx hy
    rw [wsm (by omega) (by omega), Int.tmod_eq_emod_of_nonneg this.1]
  unfold js.f
  rw [if_neg (by omega), m a0 a0, m a0 a1, m a0 a2, m a1 a1, m a1 a2, m a2 a2]
  rfl
theorem qiu {p : Int} (hp : zh p = true) (l : List S43) (hl : l.length ≤ 1000) (hin : ∀ j, j < l.length → inP p ((tps l).getD j (0, 0, 0))) : Ev (fun k => zu.f k p l) (Q1 p 6 ((tps l).map (sqR p))) := by
  have hb := z5 hp
  have hlen : (tps l).length = l.length := by simp [tps]
  have h0 : ∀ (d i : Nat) (acc : List (List Int)), i + d = l.length → acc = ((tps l).take i).map (sqR p) → Ev (fun q => zu.l0 q p l acc (i : Int)) (Q1 p 6 ((tps l).map (sqR p))) := by
    intro d
    induction d with
    | zero =>
      intro i acc hi ha
      refine Ev.step (fun q => by rw [zu.l0, if_neg (by omega)]) ?_
      rw [List.take_of_length_le (by omega)] at ha
      subst ha
      have := qgi hp (w := 6) (by omega) _ (by rw [List.length_map]; omega) (sq_ok hp (tps l))
      exact Ev.bind this (Ev.now _)
    | succ d ih =>
      intro i acc hi ha
      have hil : i < l.length := by omega
      have e : js.f p (qd l (i : Int)).f0.f0 (qd l (i : Int)).f0.f1 (qd l (i : Int)).f0.f2 = some (sqR p ((tps l).getD i (0, 0, 0))) := by
        have := qhi (p := p) ⟨by omega, by omega⟩ _ (hin i hil)
        rw [← qa2 l i hil] at this ⊢
        exact this
      have hal : acc.length ≤ 1000 := by rw [ha, List.length_map, List.length_take]; omega
      refine Ev.step (fun q => by rw [zu.l0, if_pos (by omega), if_pos (by omega), e, Option.bind_some, if_pos (by omega), wsm (by omega) (by omega)]) ?_
      refine ih (i + 1) _ (by omega) ?_
      rw [ha, List.take_add_one, List.map_append, List.getD_eq_getElem?_getD, List.getElem?_eq_getElem (by omega)]
      rfl
  unfold zu.f
  exact h0 l.length 0 [] (by omega) (by simp)
def genB (p : Int) (Q : List (Int × Int × Int)) : Bool := decide (Q.length = 6) && Ju p Q && (Q1 p 6 (Q.map (sqR p))).isEmpty
theorem Qk {p : Int} {Q : List (Int × Int × Int)} (h : genB p Q = true) : zh p = true ∧ Q.length = 6 ∧ Ju p Q = true ∧ Q1 p 6 (Q.map (sqR p)) = [] := by
  rw [genB, Bool.and_eq_true, Bool.and_eq_true, decide_eq_true_iff] at h
  obtain ⟨⟨h1, h2⟩, h3⟩ := h
  refine ⟨?_, h1, h2, by simpa using h3⟩
  cases hp : zh p with
  | true => rfl
  | false => rw [qdi hp Q (by omega)] at h2; exact absurd h2 (by simp)
theorem Js (p : Int) (l : List S43) : Ev (fun k => zq.f k p l) (genB p (tps l)) := by
  have hlen : (tps l).length = l.length := by simp [tps]
  unfold zq.f
  by_cases h6 : l.length = 6
  · refine Ev.yes (by omega) ?_
    rw [genB, hlen, decide_eq_true h6, Bool.true_and]
    cases hp : zh p with
    | false =>
      rw [qdi hp _ (by omega)]
      exact Ev.bind (qgw hp l (by omega)) (Ev.no (by simp) (Ev.now _))
    | true =>
      refine Ev.bind (qjm hp l (by omega)) ?_
      cases ha : Ju p (tps l) with
      | false => exact Ev.no (by simp) (Ev.now _)
      | true =>
        refine Ev.yes rfl (Ev.bind (qiu hp l (by omega) fun j hj => Ja ((Zi ha).1 j (by omega))) ?_)
        have e : ((((Q1 p 6 ((tps l).map (sqR p))).length : Int)) == 0) = (true && (Q1 p 6 ((tps l).map (sqR p))).isEmpty) := by
          cases Q1 p 6 ((tps l).map (sqR p)) with
          | nil => rfl
          | cons a t => simp; omega
        rw [e]
        exact Ev.now _
  · refine Ev.no (by omega) ?_
    rw [genB, hlen, decide_eq_false h6]
    exact Ev.now _
end Go.Proofs.Ytmgbpmihbljngaa.PA
namespace Go.Proofs.Ytmgbpmihbljngaa.PA
open Go.RowKit Go.Proofs.YtmgbpmihbljngaaW.PrintWords Go.Proofs.YtmgbpmihbljngaaW.PrintLast Go.Proofs.YtmgbpmihbljngaaW.PrintMore
set_option linter.unusedVariables false
set_option linter.unusedSimpArgs false
theorem qer (l : List Int) (v : Int) (hlen : l.length ≤ 1000000) (h : Nat) (hl : h < l.length) (hv : rd l (h : Int) = v) (hn : ∀ j : Nat, j < h → rd l (j : Int) ≠ v) : ∀ (d i : Nat), i + d = h → Ev (fun k => qk.l0 k l v (l.length : Int) (i : Int)) (h : Int)
  | 0, i, e => by
    obtain rfl : i = h := by omega
    refine Ev.step (f := fun _ => some (i : Int)) (fun k => ?_) (Ev.now _)
    rw [qk.l0, if_pos (by omega), if_pos (by omega), if_pos (by omega), if_pos hv.symm]
  | d + 1, i, e => by
    refine Ev.step (f := fun k => qk.l0 k l v (l.length : Int) ((i + 1 : Nat) : Int)) (fun k => ?_) (qer l v hlen h hl hv hn d (i + 1) (by omega))
    rw [qk.l0, if_pos (by omega), if_pos (by omega), if_pos (by omega), if_neg (fun e2 => hn i (by omega) e2.symm), wsm (by omega) (by omega)]; rfl
theorem qft (l : List Int) (v : Int) (hlen : l.length ≤ 1000000) (hn : ∀ j : Nat, j < l.length → rd l (j : Int) ≠ v) : ∀ (d i : Nat), i + d = l.length → Ev (fun k => qk.l0 k l v (l.length : Int) (i : Int)) (-1)
  | 0, i, e => by
    refine Ev.step (f := fun _ => some (-1)) (fun k => ?_) (Ev.now _)
    rw [qk.l0, if_neg (by omega)]
  | d + 1, i, e => by
    refine Ev.step (f := fun k => qk.l0 k l v (l.length : Int) ((i + 1 : Nat) : Int)) (fun k => ?_) (qft l v hlen hn d (i + 1) (by omega))
    rw [qk.l0, if_pos (by omega), if_pos (by omega), if_pos (by omega), if_neg (fun e2 => hn i (by omega) e2.symm), wsm (by omega) (by omega)]; rfl
theorem qnr (l : List Int) (v : Int) (hlen : l.length ≤ 1000000) {h : Nat} (hl : h < l.length) (hv : rd l (h : Int) = v) (hn : ∀ j : Nat, j < h → rd l (j : Int) ≠ v) : Ev (fun k => qk.f k l v) (h : Int) := by
  unfold qk.f
  exact qer l v hlen h hl hv hn h 0 (by omega)
theorem qi1 (l : List Int) (v : Int) : ∀ n : Nat, n ≤ l.length → (∃ h : Nat, h < n ∧ rd l (h : Int) = v ∧ ∀ j : Nat, j < h → rd l (j : Int) ≠ v) ∨ ∀ j : Nat, j < n → rd l (j : Int) ≠ v
  | 0, _ => .inr fun j hj => absurd hj (by omega)
  | n + 1, hn => by
    rcases qi1 l v n (by omega) with ⟨h, h1, h2, h3⟩ | h
    · exact .inl ⟨h, by omega, h2, h3⟩
    · by_cases e : rd l (n : Int) = v
      · exact .inl ⟨n, by omega, e, h⟩
      · refine .inr fun j hj => ?_
        rcases Nat.lt_succ_iff_lt_or_eq.1 hj with h1 | h1
        · exact h j h1
        · rw [h1]; exact e
theorem qh0 (l : List Int) (v : Int) (hlen : l.length ≤ 1000000) : Ev (fun k => qt.f k l v) (decide (v ∈ l)) := by
  unfold qt.f qk.f
  rcases qi1 l v l.length (by omega) with ⟨h, h1, h2, h3⟩ | h
  · have hm : v ∈ l := by rw [← h2, Zu l h h1]; exact List.getElem_mem _
    refine Ev.bind (qer l v hlen h h1 h2 h3 h 0 (by omega)) ?_
    rw [decide_eq_true (show (h : Int) ≥ 0 by omega), decide_eq_true hm]; exact Ev.now _
  · have hm : ¬ v ∈ l := fun hm => by
      obtain ⟨j, hj, e⟩ := List.mem_iff_getElem.1 hm
      exact h j hj (by rw [Zu l j hj]; exact e)
    refine Ev.bind (qft l v hlen h l.length 0 (by omega)) ?_
    rw [decide_eq_false (show ¬ (-1 : Int) ≥ 0 by omega), decide_eq_false hm]; exact Ev.now _
end Go.Proofs.Ytmgbpmihbljngaa.PA
namespace Go.Proofs.Ytmgbpmihbljngaa.PA
open Go.RowKit Go.Proofs.YtmgbpmihbljngaaW.PrintWords Go.Proofs.YtmgbpmihbljngaaW.PrintLast Go.Proofs.YtmgbpmihbljngaaW.PrintMore
set_option linter.unusedVariables false
set_option linter.unusedSimpArgs false
theorem qo9 {p : Int} (hp : zh p = true) {x : Int} (h0 : 0 ≤ x) (h1 : x < p) : Zt.f (wrap64 (-x)) p = some ((-x) % p) := by
  have hb := z5 hp
  rw [qgs p _ (by omega), J4 ⟨by omega, by omega⟩ (by omega) (by omega)]
theorem qfe (P : List (Nat × List Int)) (i : Nat) (hi : i < P.length) : jl (P.map Prod.snd) (i : Int) = (P[i]).2 := by
  simp [jl, List.getD_eq_getElem?_getD, hi]
theorem qjg (P : List (Nat × List Int)) (i : Nat) (hi : i < P.length) : rd (P.map fun x => (x.1 : Int)) (i : Int) = ((P[i]).1 : Int) := by
  simp [rd, List.getD_eq_getElem?_getD, hi]
theorem qfk {p : Int} {w : Nat} {P : List (Nat × List Int)} (h : Rref p w P) : P.length ≤ w := by
  have h1 := Q9 (P := P) (Q := (List.range w).map fun c => (c, ([] : List Int))) h.inc (by rw [List.pairwise_map]; exact List.pairwise_lt_range) (fun x hx => ⟨(x.1, []), List.mem_map.2 ⟨x.1, by simpa using h.lt x hx, rfl⟩, rfl⟩)
  simpa using h1
theorem qj2 {P : List (Nat × List Int)} (c : Nat) : decide ((c : Int) ∈ P.map fun x => (x.1 : Int)) = !jz P c := by
  rw [jz, Bool.not_not, Bool.eq_iff_iff, decide_eq_true_iff, List.any_eq_true]
  constructor
  · intro h
    obtain ⟨x, hx, e⟩ := List.mem_map.1 h
    exact ⟨x, hx, by have : x.1 = c := by omega
                     simp [this]⟩
  · rintro ⟨x, hx, e⟩
    exact List.mem_map.2 ⟨x, hx, by have : x.1 = c := by simpa using e
                                    omega⟩
theorem qgh {p : Int} {w : Nat} (hw : w ≤ 1000) {P : List (Nat × List Int)} (h : Rref p w P) {R : List (List Int)} (hend : Ev (fun k => qi.l1 k p (w : Int) (P.map Prod.snd) (P.map fun x => (x.1 : Int)) [] (w : Int) 0) R) : ∀ (d i : Nat), i + d = P.length →
    Ev (fun k => qi.l0 k p (w : Int) (P.map Prod.snd) ((P.map fun x => (x.1 : Int)).take i) (P.map Prod.snd) ((P.map Prod.snd).length : Int) (i : Int)) R
  | 0, i, e => by
    refine Ev.step (f := fun k => qi.l1 k p (w : Int) (P.map Prod.snd) (P.map fun x => (x.1 : Int)) [] (w : Int) 0) (fun k => ?_) hend
    rw [qi.l0, if_neg (by rw [List.length_map]; omega), List.take_of_length_le (by rw [List.length_map]; omega)]
  | d + 1, i, e => by
    have hi : i < P.length := by omega
    have hle := qfk h
    have ih := qgh hw h hend d (i + 1) (by omega)
    have hm := List.getElem_mem hi
    refine Ev.step (fun k => by rw [qi.l0, if_pos (by rw [List.length_map]; omega), if_pos (by omega), if_pos (by rw [List.length_map]; omega), qfe P i hi]) ?_
    have hlen := (h.ok _ hm).1
    refine Ev.bind (qnr (P[i]).2 1 (by omega) (h := (P[i]).1) (by rw [hlen]; exact h.lt _ hm) (h.one _ hm) (fun j hj => by
      have := h.low _ hm j hj
      rw [fn] at this; rw [this]; decide)) (Ev.yes (by simp; omega) ?_)
    rw [wsm (by omega) (by omega), show ((P.map fun x => (x.1 : Int)).take i) ++ [((P[i]).1 : Int)] = (P.map fun x => (x.1 : Int)).take (i + 1) by
      rw [List.take_add_one, List.getElem?_map, List.getElem?_eq_getElem hi]; rfl]
    exact ih
theorem qld {p : Int} (hp : zh p = true) {w : Nat} (hw : w ≤ 1000) {P : List (Nat × List Int)} (h : Rref p w P) {c : Nat} (hc : c < w) {O : List (List Int)} (hO : O.length ≤ 1000) {R : List (List Int)} : ∀ (d i : Nat) (v V : List Int), i + d = P.length → v.length = w → Q5 p c (P.drop i) v = V →
    Ev (fun k => qi.l1 k p (w : Int) (P.map Prod.snd) (P.map fun x => (x.1 : Int)) (O ++ [V]) (w : Int) ((c + 1 : Nat) : Int)) R →
    Ev (fun k => qi.l2 k p (w : Int) (P.map Prod.snd) (P.map fun x => (x.1 : Int)) O (c : Int) v (w : Int) (c : Int) (P.map Prod.snd) ((P.map Prod.snd).length : Int) (i : Int)) R
  | 0, i, v, V, e, hv, hV, hend => by
    rw [List.drop_eq_nil_of_le (by omega), Q5] at hV
    subst hV
    refine Ev.step (fun k => by rw [qi.l2, if_neg (by rw [List.length_map]; omega), if_pos (by omega), wsm (by omega) (by omega)]) ?_
    simpa using hend
  | d + 1, i, v, V, e, hv, hV, hend => by
    have hi : i < P.length := by omega
    have hle := qfk h
    have hm := List.getElem_mem hi
    have hlen := (h.ok _ hm).1
    have hlt := h.lt _ hm
    have hr := Zc (h.ok _ hm) c hc
    rw [fn] at hr
    rw [List.drop_eq_getElem_cons hi, Q5] at hV
    refine Ev.step (fun k => by rw [qi.l2, if_pos (by rw [List.length_map]; omega), if_pos (by omega), if_pos (by rw [List.length_map]; omega), if_pos (by rw [List.length_map]; omega), if_pos (by omega), qfe P i hi, if_pos (by omega), qjg P i hi, qo9 hp hr.1 hr.2]) ?_
    refine Ev.bind (a := (-(rd (P[i]).2 (c : Int))) % p) (Ev.now _) (Ev.yes (by omega) (Ev.yes (by omega) ?_))
    have ih := qld hp hw h hc hO d (i + 1) (v.set (P[i]).1 ((-(rd (P[i]).2 (c : Int))) % p)) V (by omega) (by rw [List.length_set]; exact hv) hV hend
    rw [wsm (by omega) (by omega)]
    simpa using ih
theorem qfb {p : Int} (hp : zh p = true) {w : Nat} (hw : w ≤ 1000) {P : List (Nat × List Int)} (h : Rref p w P) : ∀ (d c : Nat) (O : List (List Int)), c + d = w → O = (((List.range c).filter (jz P)).map (Qn p w P)) →
    Ev (fun k => qi.l1 k p (w : Int) (P.map Prod.snd) (P.map fun x => (x.1 : Int)) O (w : Int) (c : Int)) (redP p w 0 (Zk p w P) [])
  | 0, c, O, e, hO => by
    obtain rfl : c = w := by omega
    have hb := z5 hp
    refine Ev.step (fun k => by rw [qi.l1, if_neg (by omega)]) ?_
    have hlen : O.length < 1000000 := by
      rw [hO, List.length_map]
      have := List.length_filter_le (jz P) (List.range c)
      simp at this; omega
    have hok := J7 (p := p) (by omega) h
    subst hO
    exact Ev.bind (qkb hp (w := c) _ (by omega) hlen hok) (Ev.now _)
  | d + 1, c, O, e, hO => by
    have hle := qfk h
    have hOl : O.length ≤ 1000 := by
      rw [hO, List.length_map]
      have := List.length_filter_le (jz P) (List.range c)
      simp at this; omega
    have hsucc : (List.range (c + 1)).filter (jz P) = (List.range c).filter (jz P) ++ (if jz P c = true then [c] else []) := by
      rw [List.range_succ, List.filter_append]
      congr 1
      cases hf : jz P c <;> simp [hf]
    refine Ev.step (fun k => by rw [qi.l1, if_pos (by omega)]) ?_
    refine Ev.bind (qh0 _ (c : Int) (by rw [List.length_map]; omega)) ?_
    rw [qj2]
    cases hf : jz P c with
    | false =>
      refine Ev.yes rfl ?_
      rw [wsm (by omega) (by omega)]
      exact qfb hp hw h d (c + 1) O (by omega) (by rw [hsucc, hf, hO]; simp)
    | true =>
      refine Ev.no (by simp) (Ev.yes (by omega) (Ev.yes (by omega) (Ev.bind (a := List.replicate w 0) (by simpa using Ev.now (List.replicate w (0 : Int))) (Ev.yes (by omega) (Ev.yes (by simp; omega) ?_)))))
      have hend := qfb hp hw h d (c + 1) (O ++ [Qn p w P c]) (by omega) (by rw [hsucc, hf, hO]; simp)
      have := qld hp hw h (c := c) (by omega) hOl (R := redP p w 0 (Zk p w P) []) P.length 0 ((List.replicate w 0).set c 1) (Qn p w P c) (by omega) (by simp) (by rw [List.drop_zero]; rfl) hend
      simpa using this
theorem qao {p : Int} (hp : zh p = true) {w : Nat} (hw : w ≤ 1000) (L : List (List Int)) (hl : L.length < 1000000) (hL : ∀ r ∈ L, r.length = w) : Ev (fun k => qi.f k p L (w : Int)) (Q1 p w (L.map fun r => r.map (modV p))) := by
  have hb := z5 hp
  have hok : okR p w (L.map fun r => r.map (modV p)) := fun x hx => by
    obtain ⟨r, hr, rfl⟩ := List.mem_map.1 hx
    refine ⟨by rw [List.length_map, hL r hr], fun y hy => ?_⟩
    obtain ⟨z, _, rfl⟩ := List.mem_map.1 hy
    have h2 := qef (p := p) (by omega) z
    rw [modV, wsm (by omega) (by omega), Int.tmod_eq_emod_of_nonneg (by omega)]
    exact ⟨Int.emod_nonneg _ (by omega), Int.emod_lt_of_pos _ (by omega)⟩
  obtain ⟨e1, _, hP, _, _⟩ := qac hp hok
  unfold qi.f
  refine Ev.bind (qck hp L (by omega) hl hL) ?_
  rw [e1]
  have h := qgh (p := p) hw hP (qfb hp hw hP w 0 [] (by omega) (by simp)) (Jt p w (L.map fun r => r.map (modV p))).length 0 (by omega)
  simpa [Q1] using h
theorem qhm {p : Int} (hp : zh p = true) {w : Nat} (hw : w ≤ 1000) (L : List (List Int)) (hl : L.length < 1000000) (hL : okR p w L) : Ev (fun k => qi.f k p L (w : Int)) (Q1 p w L) := by
  have h := qao hp hw L hl (fun r hr => (hL r hr).1)
  have e : (L.map fun r => r.map (modV p)) = L := by
    rw [List.map_congr_left (g := id)]
    · simp
    · intro r hr
      rw [List.map_congr_left (g := id)]
      · simp
      · intro x hx; have := (hL r hr).2 x hx; exact qgj hp this.1 this.2
  rwa [e] at h
end Go.Proofs.Ytmgbpmihbljngaa.PA
namespace Go.Proofs.Ytmgbpmihbljngaa.PA
open Go.RowKit Go.Proofs.YtmgbpmihbljngaaW.PrintWords Go.Proofs.YtmgbpmihbljngaaW.PrintLast Go.Proofs.YtmgbpmihbljngaaW.PrintMore
set_option linter.unusedVariables false
set_option linter.unusedSimpArgs false
def sqI (t : Int × Int × Int) : List Int := [t.1 * t.1, t.1 * t.2.1, t.1 * t.2.2, t.2.1 * t.2.1, t.2.1 * t.2.2, t.2.2 * t.2.2]
theorem Ji {p x : Int} (hp : 7 ≤ p ∧ p ≤ 31) (h0 : -1000000000 ≤ x) (h1 : x ≤ 1000000000) : modV p x = x % p := by
  have := J4 hp h0 h1
  rwa [wsm (by omega) (by omega)] at this
theorem qo0 {p : Int} (hp : 7 ≤ p ∧ p ≤ 31) {t : Int × Int × Int} (ht : inP p t) : (sqI t).map (modV p) = sqR p t := by
  obtain ⟨a0, a1, a2⟩ := ht
  have m1 := j7 hp a0 a0
  have m2 := j7 hp a0 a1
  have m3 := j7 hp a0 a2
  have m4 := j7 hp a1 a1
  have m5 := j7 hp a1 a2
  have m6 := j7 hp a2 a2
  simp only [sqI, sqR, List.map_cons, List.map_nil]
  rw [Ji hp (by omega) (by omega), Ji hp (by omega) (by omega), Ji hp (by omega) (by omega), Ji hp (by omega) (by omega), Ji hp (by omega) (by omega), Ji hp (by omega) (by omega)]
theorem qjn {p : Int} (hp : 7 ≤ p ∧ p ≤ 31) (l : List S43) (hl : l.length ≤ 1000) (hin : ∀ j, j < l.length → inP p ((tps l).getD j (0, 0, 0))) : Ev (fun k => z7.f k l) ((tps l).map sqI) := by
  have hlen : (tps l).length = l.length := by simp [tps]
  have h0 : ∀ (d i : Nat) (acc : List (List Int)), i + d = l.length → acc = ((tps l).take i).map sqI → Ev (fun q => z7.l0 q acc l (l.length : Int) (i : Int)) ((tps l).map sqI) := by
    intro d
    induction d with
    | zero =>
      intro i acc hi ha
      rw [List.take_of_length_le (by omega)] at ha
      subst ha
      exact Ev.step (f := fun _ => some ((tps l).map sqI)) (fun q => by rw [z7.l0, if_neg (by omega)]) (Ev.now _)
    | succ d ih =>
      intro i acc hi ha
      have hil : i < l.length := by omega
      have hal : acc.length ≤ 1000 := by rw [ha, List.length_map, List.length_take]; omega
      have e := qa2 l i hil
      obtain ⟨a0, a1, a2⟩ := hin i hil
      have f0 : (qd l (i : Int)).f0.f0 = ((tps l).getD i (0, 0, 0)).1 := by rw [← e]; rfl
      have f1 : (qd l (i : Int)).f0.f1 = ((tps l).getD i (0, 0, 0)).2.1 := by rw [← e]; rfl
      have f2 : (qd l (i : Int)).f0.f2 = ((tps l).getD i (0, 0, 0)).2.2 := by rw [← e]; rfl
      have m1 := j7 hp a0 a0
      have m2 := j7 hp a0 a1
      have m3 := j7 hp a0 a2
      have m4 := j7 hp a1 a1
      have m5 := j7 hp a1 a2
      have m6 := j7 hp a2 a2
      refine Ev.step (fun q => by rw [z7.l0, if_pos (by omega), if_pos (by omega), if_pos (by omega), if_pos (by omega), f0, f1, f2, wsm (i := ((tps l).getD i (0, 0, 0)).1 * ((tps l).getD i (0, 0, 0)).1) (by omega) (by omega), wsm (i := ((tps l).getD i (0, 0, 0)).1 * ((tps l).getD i (0, 0, 0)).2.1) (by omega) (by omega), wsm (i := ((tps l).getD i (0, 0, 0)).1 * ((tps l).getD i (0, 0, 0)).2.2) (by omega) (by omega), wsm (i := ((tps l).getD i (0, 0, 0)).2.1 * ((tps l).getD i (0, 0, 0)).2.1) (by omega) (by omega), wsm (i := ((tps l).getD i (0, 0, 0)).2.1 * ((tps l).getD i (0, 0, 0)).2.2) (by omega) (by omega), wsm (i := ((tps l).getD i (0, 0, 0)).2.2 * ((tps l).getD i (0, 0, 0)).2.2) (by omega) (by omega), wsm (by omega) (by omega)]) ?_
      refine ih (i + 1) _ (by omega) ?_
      rw [ha, List.take_add_one, List.map_append, List.getD_eq_getElem?_getD, List.getElem?_eq_getElem (by omega)]
      rfl
  unfold z7.f
  exact h0 l.length 0 [] (by omega) (by simp)
theorem qah (p : Int) (l : List S43) : Ev (fun k => zi.f k p l) (genB p (tps l)) := by
  have hlen : (tps l).length = l.length := by simp [tps]
  unfold zi.f
  by_cases h6 : l.length = 6
  · refine Ev.yes (by omega) ?_
    rw [genB, hlen, decide_eq_true h6, Bool.true_and]
    refine Ev.bind (qhy l (by omega)) ?_
    cases ha : Ju p (tps l) with
    | false => exact Ev.no (by simp) (Ev.now _)
    | true =>
      have hp : zh p = true := by
        cases hp : zh p with
        | true => rfl
        | false => rw [qdi hp _ (by omega)] at ha; cases ha
      have hb := z5 hp
      have hin : ∀ j, j < l.length → inP p ((tps l).getD j (0, 0, 0)) := fun j hj => Ja ((Zi ha).1 j (by omega))
      have hs := qao hp (w := 6) (by omega) ((tps l).map sqI) (by rw [List.length_map]; omega) (fun r hr => by obtain ⟨t, _, rfl⟩ := List.mem_map.1 hr; rfl)
      have e : (((tps l).map sqI).map fun r => r.map (modV p)) = (tps l).map (sqR p) := by
        rw [List.map_map]
        refine List.map_congr_left fun t ht => ?_
        obtain ⟨j, hj, rfl⟩ := List.getElem_of_mem ht
        have := hin j (by omega)
        rw [List.getD_eq_getElem?_getD, List.getElem?_eq_getElem hj] at this
        exact qo0 ⟨by omega, by omega⟩ this
      rw [e] at hs
      refine Ev.yes rfl (Ev.bind (qjn (p := p) ⟨by omega, by omega⟩ l (by omega) hin) (Ev.bind hs ?_))
      have e2 : (((Q1 p 6 ((tps l).map (sqR p))).length : Int) == 0) = (true && (Q1 p 6 ((tps l).map (sqR p))).isEmpty) := by
        cases Q1 p 6 ((tps l).map (sqR p)) with
        | nil => rfl
        | cons a b => simp; omega
      rw [e2]
      exact Ev.now _
  · refine Ev.no (by omega) ?_
    rw [genB, hlen, decide_eq_false h6]
    exact Ev.now _
end Go.Proofs.Ytmgbpmihbljngaa.PA
namespace Go.Proofs.Ytmgbpmihbljngaa.PA
open Go.RowKit Go.Proofs.YtmgbpmihbljngaaW.PrintWords Go.Proofs.YtmgbpmihbljngaaW.PrintLast Go.Proofs.YtmgbpmihbljngaaW.PrintMore
set_option linter.unusedVariables false
set_option linter.unusedSimpArgs false
abbrev Fq (n : Nat) := Fin (n + 1)
def sm {n : Nat} : Nat → (Nat → Fq n) → Fq n
  | 0, _ => 0
  | m + 1, f => sm m f + f m
theorem j5 {n : Nat} {f g : Nat → Fq n} : ∀ (m : Nat), (∀ i, i < m → f i = g i) → sm m f = sm m g
  | 0, _ => rfl
  | m + 1, h => by rw [sm, sm, j5 m (fun i hi => h i (by omega)), h m (by omega)]
theorem qey {n : Nat} (f g : Nat → Fq n) : ∀ m, sm m (fun i => f i + g i) = sm m f + sm m g
  | 0 => by simp [sm]
  | m + 1 => by rw [sm, sm, sm, qey f g m]; grind
theorem J6 {n : Nat} (c : Fq n) (f : Nat → Fq n) : ∀ m, sm m (fun i => c * f i) = c * sm m f
  | 0 => by rw [sm, sm]; grind
  | m + 1 => by rw [sm, sm, J6 c f m]; grind
theorem Jc {n : Nat} {f : Nat → Fq n} : ∀ m, (∀ i, i < m → f i = 0) → sm m f = 0
  | 0, _ => rfl
  | m + 1, h => by rw [sm, Jc m (fun i hi => h i (by omega)), h m (by omega)]; grind
theorem Jr {n : Nat} (f : Nat → Fq n) (a : Nat) : ∀ b, sm (a + b) f = sm a f + sm b (fun i => f (a + i))
  | 0 => by simp [sm]
  | b + 1 => by rw [← Nat.add_assoc, sm, sm, Jr f a b]; grind
theorem qnh {n : Nat} (f : Nat → Fq n) (m : Nat) : sm (m + 1) f = f 0 + sm m (fun i => f (i + 1)) := by
  rw [Nat.add_comm, Jr f 1 m]
  simp only [sm, Nat.add_comm 1]
  grind
theorem qnl {n : Nat} : ∀ (m : Nat) (f : Nat → Fq n), sm m f = sm m (fun i => f (m - 1 - i))
  | 0, _ => rfl
  | m + 1, f => by
    rw [qnh (fun i => f (m + 1 - 1 - i)) m, sm, qnl m f]
    have : sm m (fun i => f (m - 1 - i)) = sm m (fun i => f (m + 1 - 1 - (i + 1))) := j5 m fun i hi => by congr 1; omega
    rw [this]
    simp only [Nat.add_sub_cancel, Nat.sub_zero]
    grind
theorem qke {n : Nat} (a : Nat → Nat → Fq n) : ∀ m, sm m (fun i => sm (i + 1) (fun j => a j (i - j))) = sm m (fun j => sm (m - j) (fun k => a j k))
  | 0 => rfl
  | m + 1 => by
    have e0 : sm (m + 1) (fun i => sm (i + 1) (fun j => a j (i - j))) = sm m (fun i => sm (i + 1) (fun j => a j (i - j))) + sm (m + 1) (fun j => a j (m - j)) := rfl
    have e1 : sm (m + 1) (fun j => sm (m + 1 - j) (fun k => a j k)) = sm m (fun j => sm (m + 1 - j) (fun k => a j k)) + sm (m + 1 - m) (fun k => a m k) := rfl
    have e2 : sm (m + 1) (fun j => a j (m - j)) = sm m (fun j => a j (m - j)) + a m (m - m) := rfl
    rw [e0, e1, e2, qke a m]
    have e : sm m (fun j => sm (m + 1 - j) (fun k => a j k)) = sm m (fun j => sm (m - j) (fun k => a j k)) + sm m (fun j => a j (m - j)) := by
      rw [← qey]
      refine j5 m fun i hi => ?_
      rw [show m + 1 - i = (m - i) + 1 by omega, sm]
    rw [e, show m + 1 - m = 0 + 1 by omega, sm, sm, Nat.sub_self]
    grind
def mulP {n : Nat} (f g : Nat → Fq n) (r : Nat) : Fq n := sm (r + 1) fun i => f i * g (r - i)
theorem Ze {n : Nat} (f g : Nat → Fq n) : mulP f g = mulP g f := by
  funext r
  rw [mulP, qnl, mulP]
  refine j5 _ fun i hi => ?_
  rw [show r - (r + 1 - 1 - i) = i by omega, show r + 1 - 1 - i = r - i by omega]
  grind
theorem qa6 {n : Nat} (f g h : Nat → Fq n) : mulP (mulP f g) h = mulP f (mulP g h) := by
  funext r
  have e1 : mulP (mulP f g) h r = sm (r + 1) (fun i => sm (i + 1) (fun j => f j * g (i - j) * h (r - j - (i - j)))) := by
    unfold mulP
    refine j5 _ fun i hi => ?_
    rw [show sm (i + 1) (fun i_1 => f i_1 * g (i - i_1)) * h (r - i) = h (r - i) * sm (i + 1) (fun i_1 => f i_1 * g (i - i_1)) by grind, ← J6]
    refine j5 _ fun j hj => ?_
    rw [show r - j - (i - j) = r - i by omega]
    grind
  rw [e1, qke (fun j k => f j * g k * h (r - j - k)), mulP]
  refine j5 _ fun j hj => ?_
  rw [mulP, ← J6, show r + 1 - j = r - j + 1 by omega]
  refine j5 _ fun k hk => ?_
  grind
instance mulP_c {n : Nat} : Std.Commutative (α := Nat → Fq n) mulP := ⟨Ze⟩
instance mulP_a {n : Nat} : Std.Associative (α := Nat → Fq n) mulP := ⟨qa6⟩
def addP {n : Nat} (f g : Nat → Fq n) (r : Nat) : Fq n := f r + g r
def qd3 {n : Nat} (c : Fq n) (f : Nat → Fq n) (r : Nat) : Fq n := c * f r
theorem qob {n : Nat} (f g h : Nat → Fq n) : mulP f (addP g h) = addP (mulP f g) (mulP f h) := by
  funext r
  show sm (r + 1) _ = sm (r + 1) _ + sm (r + 1) _
  rw [← qey]
  exact j5 _ fun i _ => by show f i * (g (r - i) + h (r - i)) = _; grind
theorem qlo {n : Nat} (c : Fq n) (f g : Nat → Fq n) : mulP f (qd3 c g) = qd3 c (mulP f g) := by
  funext r
  show sm (r + 1) _ = c * sm (r + 1) _
  rw [← J6]
  exact j5 _ fun i _ => by show f i * (c * g (r - i)) = _; grind
theorem qfu {n : Nat} (f g h : Nat → Fq n) : mulP (addP g h) f = addP (mulP g f) (mulP h f) := by rw [Ze, qob, Ze f, Ze f]
theorem qbv {n : Nat} (c : Fq n) (f g : Nat → Fq n) : mulP (qd3 c g) f = qd3 c (mulP g f) := by rw [Ze, qlo, Ze f]
def tris : List (Nat × Nat × Nat) := [(0,0,0),(0,0,1),(0,0,2),(0,0,3),(0,1,1),(0,1,2),(0,1,3),(0,2,2),(0,2,3),(0,3,3),(1,1,1),(1,1,2),(1,1,3),(1,2,2),(1,2,3),(1,3,3),(2,2,2),(2,2,3),(2,3,3),(3,3,3)]
def tI (c : Nat) : Nat := (tris.getD c (0,0,0)).1
def tJ (c : Nat) : Nat := (tris.getD c (0,0,0)).2.1
def tK (c : Nat) : Nat := (tris.getD c (0,0,0)).2.2
def qaf {n : Nat} (l m q : Nat → Fq n) (i j k : Nat) : Fq n :=
  if i = j then if j = k then l i * m i * q i else l i * m i * q k + l i * m k * q i + l k * m i * q i
  else if j = k then l i * m j * q j + l j * m i * q j + l j * m j * q i
  else l i * m j * q k + l i * m k * q j + l j * m i * q k + l j * m k * q i + l k * m i * q j + l k * m j * q i
def cubC {n : Nat} (l m q : Nat → Fq n) (c : Nat) : Fq n := qaf l m q (tI c) (tJ c) (tK c)
def lin4 {n : Nat} (l y : Nat → Fq n) : Fq n := l 0 * y 0 + l 1 * y 1 + l 2 * y 2 + l 3 * y 3
theorem qlj {n : Nat} (l m q : Nat → Fq n) (t : Nat → Nat → Nat → Fq n) (s1 : ∀ i j k, t i j k = t j i k) (s2 : ∀ i j k, t i j k = t i k j) :
    sm 20 (fun c => cubC l m q c * t (tI c) (tJ c) (tK c)) = lin4 l fun i => lin4 m fun j => lin4 q fun k => t i j k := by
  simp only [sm, cubC, qaf, tI, tJ, tK, tris, lin4, List.getD_cons_zero, List.getD_cons_succ, s1 1 0, s1 2 0, s1 3 0, s1 2 1, s1 3 1, s1 3 2, fun i => s2 i 1 0, fun i => s2 i 2 0, fun i => s2 i 3 0, fun i => s2 i 2 1, fun i => s2 i 3 1, fun i => s2 i 3 2]
  clear s1 s2
  simp only [if_false, if_true, Nat.reduceEqDiff, Nat.zero_ne_one, Nat.succ_ne_zero, Nat.reduceAdd]
  grind
theorem qc8 {n : Nat} (l : Nat → Fq n) (B : Nat → Nat → Fq n) (g : Nat → Fq n) (r : Nat) : mulP (fun r => lin4 l fun i => B i r) g r = lin4 l fun i => mulP (B i) g r := by
  have e : (fun r => lin4 l fun i => B i r) = addP (addP (addP (qd3 (l 0) (B 0)) (qd3 (l 1) (B 1))) (qd3 (l 2) (B 2))) (qd3 (l 3) (B 3)) := rfl
  rw [e, qfu, qfu, qfu, qbv, qbv, qbv, qbv]
  rfl
theorem qgb {n : Nat} (l : Nat → Fq n) (B : Nat → Nat → Fq n) (g : Nat → Fq n) (r : Nat) : mulP g (fun r => lin4 l fun i => B i r) r = lin4 l fun i => mulP g (B i) r := by
  rw [Ze, qc8]
  simp only [lin4, Ze g]
def proT {n : Nat} (B : Nat → Nat → Fq n) (c : Nat) : Nat → Fq n := mulP (mulP (B (tI c)) (B (tJ c))) (B (tK c))
theorem qij {n : Nat} (l m q : Nat → Fq n) (B : Nat → Nat → Fq n) (r : Nat) : sm 20 (fun c => cubC l m q c * proT B c r) = mulP (mulP (fun r => lin4 l fun i => B i r) (fun r => lin4 m fun i => B i r)) (fun r => lin4 q fun i => B i r) r := by
  have h := qlj l m q (fun i j k => mulP (mulP (B i) (B j)) (B k) r) (fun i j k => by rw [Ze (B i)]) (fun i j k => by rw [qa6, Ze (B j), ← qa6])
  unfold proT
  rw [h, qgb]
  have e : mulP (fun r => lin4 l fun i => B i r) (fun r => lin4 m fun i => B i r) = fun r => lin4 l fun i => lin4 m fun j => mulP (B i) (B j) r := by
    funext r
    rw [qc8]
    simp only [qgb]
  rw [e]
  simp only [qc8 l (fun i r => lin4 m fun j => mulP (B i) (B j) r), qc8 m]
  simp only [lin4]
  grind
theorem qk7 {n : Nat} (l m q y : Nat → Fq n) : sm 20 (fun c => cubC l m q c * (y (tI c) * y (tJ c) * y (tK c))) = lin4 l y * lin4 m y * lin4 q y := by
  rw [qlj l m q (fun i j k => y i * y j * y k) (fun i j k => by grind) (fun i j k => by grind)]
  simp only [lin4]
  grind
def FldH (n : Nat) : Prop := ∀ a : Fq n, a ≠ 0 → ∃ b : Fq n, a * b = 1
theorem fz {n : Nat} (hF : FldH n) {a b : Fq n} (h : a * b = 0) : a = 0 ∨ b = 0 := by
  by_cases ha : a = 0
  · exact .inl ha
  · obtain ⟨c, hc⟩ := hF a ha
    right
    grind
theorem fnz {n : Nat} (hF : FldH n) {a b : Fq n} (ha : a ≠ 0) (hb : b ≠ 0) : a * b ≠ 0 := fun h => (fz hF h).elim ha hb
def ev3 {n : Nat} (a P : Nat → Fq n) : Fq n := a 0 * P 0 + a 1 * P 1 + a 2 * P 2
def Q3 {n : Nat} (P Q : Nat → Fq n) : Nat → Fq n
  | 0 => P 1 * Q 2 - P 2 * Q 1
  | 1 => P 2 * Q 0 - P 0 * Q 2
  | 2 => P 0 * Q 1 - P 1 * Q 0
  | _ => 0
def valC {n : Nat} (v P : Nat → Fq n) : Fq n := v 0 * (P 0 * P 0 * P 0) + v 1 * (P 0 * P 0 * P 1) + v 2 * (P 0 * P 0 * P 2) + v 3 * (P 0 * P 1 * P 1) + v 4 * (P 0 * P 1 * P 2) + v 5 * (P 0 * P 2 * P 2) + v 6 * (P 1 * P 1 * P 1) + v 7 * (P 1 * P 1 * P 2) + v 8 * (P 1 * P 2 * P 2) + v 9 * (P 2 * P 2 * P 2)
def cub3 {n : Nat} (a b c : Nat → Fq n) : Nat → Fq n
  | 0 => qaf a b c 0 0 0
  | 1 => qaf a b c 0 0 1
  | 2 => qaf a b c 0 0 2
  | 3 => qaf a b c 0 1 1
  | 4 => qaf a b c 0 1 2
  | 5 => qaf a b c 0 2 2
  | 6 => qaf a b c 1 1 1
  | 7 => qaf a b c 1 1 2
  | 8 => qaf a b c 1 2 2
  | 9 => qaf a b c 2 2 2
  | _ => 0
theorem qns {n : Nat} (a b c P : Nat → Fq n) : valC (cub3 a b c) P = ev3 a P * ev3 b P * ev3 c P := by
  simp only [valC, cub3, qaf, ev3, if_true, if_false, Nat.zero_ne_one, Nat.reduceEqDiff]
  grind
def sprd {n : Nat} (v : Nat → Fq n) : Nat → Fq n
  | 30 => v 0
  | 21 => v 1
  | 20 => v 2
  | 12 => v 3
  | 11 => v 4
  | 10 => v 5
  | 3 => v 6
  | 2 => v 7
  | 1 => v 8
  | 0 => v 9
  | _ => 0
def linP {n : Nat} (a : Nat → Fq n) : Nat → Fq n
  | 10 => a 0
  | 1 => a 1
  | 0 => a 2
  | _ => 0
theorem qkl {n : Nat} {f : Nat → Fq n} {a : Nat} (h : ∀ i, a ≤ i → f i = 0) (b : Nat) (hb : a ≤ b) : sm b f = sm a f := by
  obtain ⟨c, rfl⟩ := Nat.exists_eq_add_of_le hb
  rw [Jr, Jc (f := fun i => f (a + i)) c fun i _ => h _ (by omega)]
  grind
theorem qiy {n : Nat} (a : Nat → Fq n) : ∀ r, 11 ≤ r → linP a r = 0
  | _ + 11, _ => rfl
theorem qei {n : Nat} (a g : Nat → Fq n) (r : Nat) : mulP (linP a) g r = a 2 * g r + (if 1 ≤ r then a 1 * g (r - 1) else 0) + (if 10 ≤ r then a 0 * g (r - 10) else 0) := by
  unfold mulP
  by_cases h : 10 ≤ r
  · rw [qkl (a := 11) (fun i hi => by rw [qiy a i hi]; grind) (r + 1) (by omega), if_pos h, if_pos (by omega)]
    simp only [sm, linP, Nat.sub_zero]
    grind
  · rw [if_neg h]
    by_cases h1 : 1 ≤ r
    · rw [if_pos h1]
      obtain ⟨q, rfl⟩ := Nat.exists_eq_add_of_le h1
      rw [show 1 + q + 1 = 2 + q by omega, Jr, Jc (m := q)]
      · simp only [sm, linP, Nat.sub_zero]
        grind
      · intro i hi
        have : linP a (2 + i) = 0 := by
          have : 2 + i < 10 := by omega
          rcases (show i = 0 ∨ i = 1 ∨ i = 2 ∨ i = 3 ∨ i = 4 ∨ i = 5 ∨ i = 6 ∨ i = 7 by omega) with rfl | rfl | rfl | rfl | rfl | rfl | rfl | rfl <;> rfl
        rw [this]; grind
    · rw [if_neg h1]
      obtain rfl : r = 0 := by omega
      simp only [sm, linP, Nat.sub_zero]
      grind
theorem qme {n : Nat} (a b c : Nat → Fq n) : sprd (cub3 a b c) = mulP (mulP (linP a) (linP b)) (linP c) := by
  funext r
  rw [qa6, qei, qei, qei, qei]
  match r with
  | 0 | 1 | 2 | 3 | 4 | 5 | 6 | 7 | 8 | 9 | 10 | 11 | 12 | 13 | 14 | 15 | 16 | 17 | 18 | 19 | 20 | 21 | 22 | 23 | 24 | 25 | 26 | 27 | 28 | 29 | 30 =>
    simp [sprd, cub3, qaf, linP]
    try grind
  | r + 31 =>
    have h : ∀ k, 11 ≤ k → linP c k = 0 := qiy c
    rw [h, h, h, h, h, h, h] <;> try omega
    show (0 : Fq n) = _
    grind
theorem qm0 {n : Nat} (hF : FldH n) (h1 : (1 : Fq n) ≠ 0) (h2 : (2 : Fq n) ≠ 0) (h3 : (3 : Fq n) ≠ 0) {a b c d : Fq n} (hb : b ≠ 0) (hd : d ≠ 0) : ∃ s : Fq n, s ≠ 0 ∧ a + s * b ≠ 0 ∧ c + s * d ≠ 0 := by
  have two : ∀ s t : Fq n, t - s ≠ 0 → ∀ {a b : Fq n}, b ≠ 0 → a + s * b = 0 → a + t * b = 0 → False := fun s t hst a b hb e1 e2 => fnz hF hst hb (by grind)
  by_cases a1 : a + 1 * b = 0
  · have b2 : a + 2 * b ≠ 0 := fun e => two 1 2 (by grind) hb a1 e
    have b3 : a + 3 * b ≠ 0 := fun e => two 1 3 (by grind) hb a1 e
    by_cases c2 : c + 2 * d = 0
    · exact ⟨3, h3, b3, fun e => two 2 3 (by grind) hd c2 e⟩
    · exact ⟨2, h2, b2, c2⟩
  · by_cases c1 : c + 1 * d = 0
    · have d2 : c + 2 * d ≠ 0 := fun e => two 1 2 (by grind) hd c1 e
      have d3 : c + 3 * d ≠ 0 := fun e => two 1 3 (by grind) hd c1 e
      by_cases a2 : a + 2 * b = 0
      · exact ⟨3, h3, fun e => two 2 3 (by grind) hb a2 e, d3⟩
      · exact ⟨2, h2, a2, d2⟩
    · exact ⟨1, h1, a1, c1⟩
theorem avoid1 {n : Nat} (h1 : (1 : Fq n) ≠ 0) (h2 : (2 : Fq n) ≠ 0) {a b : Fq n} (ha : a ≠ 0) : ∃ s : Fq n, s ≠ 0 ∧ a + s * b ≠ 0 := by
  by_cases e : a + 1 * b = 0
  · refine ⟨2, h2, fun e2 => ?_⟩
    grind
  · exact ⟨1, h1, e⟩
def onPt {n : Nat} (P Q : Nat → Fq n) (s : Fq n) (i : Nat) : Fq n := P i + s * Q i
theorem Jn {n : Nat} (a P Q : Nat → Fq n) (s : Fq n) : ev3 a (onPt P Q s) = ev3 a P + s * ev3 a Q := by simp only [ev3, onPt]; grind
theorem Zn {n : Nat} (P Q : Nat → Fq n) : ev3 (Q3 P Q) P = 0 := by simp only [ev3, Q3]; grind
theorem Z0 {n : Nat} (P Q : Nat → Fq n) : ev3 (Q3 P Q) Q = 0 := by simp only [ev3, Q3]; grind
theorem qh4 {n : Nat} {v : Nat → Fq n} {l : Nat → Fq n} {B : Nat → Nat → Fq n} (h : ∀ j, j < 10 → v j = lin4 l fun i => B i j) (P : Nat → Fq n) : valC v P = lin4 l fun i => valC (B i) P := by
  simp only [valC, h 0 (by omega), h 1 (by omega), h 2 (by omega), h 3 (by omega), h 4 (by omega), h 5 (by omega), h 6 (by omega), h 7 (by omega), h 8 (by omega), h 9 (by omega), lin4]
  grind
theorem Jy {n : Nat} {v : Nat → Fq n} {l : Nat → Fq n} {B : Nat → Nat → Fq n} (h : ∀ j, j < 10 → v j = lin4 l fun i => B i j) : sprd v = fun r => lin4 l fun i => sprd (B i) r := by
  funext r
  unfold sprd
  split <;> first | exact h _ (by omega) | (simp only [lin4]; grind)
def gen3 {n : Nat} (P : Nat → Nat → Fq n) : Prop := ∀ i j k, i < 6 → j < 6 → k < 6 → i ≠ j → j ≠ k → i ≠ k → ev3 (Q3 (P i) (P j)) (P k) ≠ 0
def lin6 {n : Nat} (P : Nat → Nat → Fq n) (i j k l m q : Nat) : Nat → Fq n := cub3 (Q3 (P i) (P j)) (Q3 (P k) (P l)) (Q3 (P m) (P q))
theorem Zx {n : Nat} (P : Nat → Nat → Fq n) (i j k l m q : Nat) (Q : Nat → Fq n) : valC (lin6 P i j k l m q) Q = ev3 (Q3 (P i) (P j)) Q * ev3 (Q3 (P k) (P l)) Q * ev3 (Q3 (P m) (P q)) Q := qns _ _ _ _
theorem qm7 {n : Nat} (P : Nat → Nat → Fq n) (i j k l m q : Nat) (h : ∀ x, x < 6 → x = i ∨ x = j ∨ x = k ∨ x = l ∨ x = m ∨ x = q) : ∀ x, x < 6 → valC (lin6 P i j k l m q) (P x) = 0 := fun x hx => by
  rw [Zx]
  rcases h x hx with rfl | rfl | rfl | rfl | rfl | rfl
  · rw [Zn]; grind
  · rw [Z0]; grind
  · rw [Zn]; grind
  · rw [Z0]; grind
  · rw [Zn]; grind
  · rw [Z0]; grind
theorem qn2 {n : Nat} (hF : FldH n) (h1 : (1 : Fq n) ≠ 0) (h2 : (2 : Fq n) ≠ 0) (h3 : (3 : Fq n) ≠ 0) (P : Nat → Nat → Fq n) (hG : gen3 P) (B : Nat → Nat → Fq n)
    (hB : ∀ v : Nat → Fq n, (∀ x, x < 6 → valC v (P x) = 0) → ∃ l : Nat → Fq n, ∀ j, j < 10 → v j = lin4 l fun i => B i j) :
    ∃ f : Nat → Fq n, (∃ c, c < 20 ∧ f c ≠ 0) ∧ ∀ r, sm 20 (fun c => f c * proT (fun i => sprd (B i)) c r) = 0 := by
  have S := qm7 P
  obtain ⟨x1, hx1⟩ := hB _ (S 0 3 1 4 2 5 (by omega))
  obtain ⟨x2, hx2⟩ := hB _ (S 0 4 1 5 2 3 (by omega))
  obtain ⟨x3, hx3⟩ := hB _ (S 0 5 1 3 2 4 (by omega))
  obtain ⟨y1, hy1⟩ := hB _ (S 0 3 1 5 2 4 (by omega))
  obtain ⟨y2, hy2⟩ := hB _ (S 0 4 1 3 2 5 (by omega))
  obtain ⟨y3, hy3⟩ := hB _ (S 0 5 1 4 2 3 (by omega))
  refine ⟨fun c => cubC x1 x2 x3 c - cubC y1 y2 y3 c, ?_, fun r => ?_⟩
  · apply Classical.byContradiction
    intro hn
    have hz : ∀ c, c < 20 → cubC x1 x2 x3 c = cubC y1 y2 y3 c := fun c hc => by
      have : ¬ (cubC x1 x2 x3 c - cubC y1 y2 y3 c ≠ 0) := fun h => hn ⟨c, hc, h⟩
      have := Classical.not_not.1 this
      grind
    have hv : ∀ y : Nat → Fq n, lin4 x1 y * lin4 x2 y * lin4 x3 y = lin4 y1 y * lin4 y2 y * lin4 y3 y := fun y => by
      rw [← qk7, ← qk7]
      exact j5 _ fun c hc => by rw [hz c hc]
    obtain ⟨s, hs, s1, s2⟩ := qm0 hF h1 h2 h3 (a := ev3 (Q3 (P 1) (P 4)) (P 0)) (c := ev3 (Q3 (P 2) (P 5)) (P 0)) (hG 1 4 3 (by omega) (by omega) (by omega) (by omega) (by omega) (by omega)) (hG 2 5 3 (by omega) (by omega) (by omega) (by omega) (by omega) (by omega))
    obtain ⟨t, ht, t1, _⟩ := qm0 hF h1 h2 h3 (a := ev3 (Q3 (P 0) (P 3)) (P 1)) (c := 1) (hG 0 3 4 (by omega) (by omega) (by omega) (by omega) (by omega) (by omega)) h1
    have a2 : valC (lin6 P 0 4 1 3 2 5) (onPt (P 0) (P 3) s) ≠ 0 := by
      rw [Zx, Jn, Jn, Jn, Zn, Z0]
      refine fnz hF (fnz hF ?_ ?_) s2
      · have := fnz hF hs (hG 0 4 3 (by omega) (by omega) (by omega) (by omega) (by omega) (by omega)); grind
      · have := hG 1 3 0 (by omega) (by omega) (by omega) (by omega) (by omega) (by omega); grind
    have a1 : valC (lin6 P 0 3 1 5 2 4) (onPt (P 1) (P 4) t) ≠ 0 := by
      rw [Zx, Jn, Jn, Jn, Zn, Z0]
      refine fnz hF (fnz hF t1 ?_) ?_
      · have := fnz hF ht (hG 1 5 4 (by omega) (by omega) (by omega) (by omega) (by omega) (by omega)); grind
      · have := hG 2 4 1 (by omega) (by omega) (by omega) (by omega) (by omega) (by omega); grind
    have a3 : valC (lin6 P 0 5 1 4 2 3) (onPt (P 0) (P 3) s) ≠ 0 := by
      rw [Zx, Jn, Jn, Jn, Zn, Z0]
      refine fnz hF (fnz hF ?_ s1) ?_
      · have := fnz hF hs (hG 0 5 3 (by omega) (by omega) (by omega) (by omega) (by omega) (by omega)); grind
      · have := hG 2 3 0 (by omega) (by omega) (by omega) (by omega) (by omega) (by omega); grind
    have b1 : valC (lin6 P 0 3 1 5 2 4) (onPt (P 0) (P 3) s) = 0 := by rw [Zx, Jn, Zn, Z0]; grind
    have b3 : valC (lin6 P 0 5 1 4 2 3) (onPt (P 1) (P 4) t) = 0 := by rw [Zx, Jn, Jn, Jn, Zn (P 1), Z0 (P 1)]; grind
    have c1 : valC (lin6 P 0 3 1 4 2 5) (onPt (P 0) (P 3) s) = 0 := by rw [Zx, Jn, Zn, Z0]; grind
    have c2 : valC (lin6 P 0 3 1 4 2 5) (onPt (P 1) (P 4) t) = 0 := by rw [Zx, Jn, Jn, Jn, Zn (P 1), Z0 (P 1)]; grind
    obtain ⟨u, hu, hu2⟩ := avoid1 h1 h2 (b := valC (lin6 P 0 4 1 3 2 5) (onPt (P 1) (P 4) t)) a2
    have hY := hv fun i => valC (B i) (onPt (P 0) (P 3) s) + u * valC (B i) (onPt (P 1) (P 4) t)
    have lin : ∀ (v l : Nat → Fq n), (∀ j, j < 10 → v j = lin4 l fun i => B i j) → lin4 l (fun i => valC (B i) (onPt (P 0) (P 3) s) + u * valC (B i) (onPt (P 1) (P 4) t)) = valC v (onPt (P 0) (P 3) s) + u * valC v (onPt (P 1) (P 4) t) := fun v l h => by
      rw [qh4 h, qh4 h]
      simp only [lin4]
      grind
    rw [lin _ _ hx1, lin _ _ hy1, lin _ _ hy2, lin _ _ hy3, c1, c2, b1, b3] at hY
    have e1 := fnz hF hu a1
    have := fnz hF (fnz hF e1 hu2) a3
    grind
  · have e : sm 20 (fun c => (cubC x1 x2 x3 c - cubC y1 y2 y3 c) * proT (fun i => sprd (B i)) c r) = sm 20 (fun c => cubC x1 x2 x3 c * proT (fun i => sprd (B i)) c r) + (-1) * sm 20 (fun c => cubC y1 y2 y3 c * proT (fun i => sprd (B i)) c r) := by
      rw [← J6, ← qey]
      exact j5 _ fun c _ => by grind
    rw [e, qij, qij, ← Jy hx1, ← Jy hx2, ← Jy hx3, ← Jy hy1, ← Jy hy2, ← Jy hy3]
    unfold lin6
    simp only [qme]
    have : ∀ a b c d e f g h i : Nat → Fq n, mulP (mulP (mulP (mulP a b) c) (mulP (mulP d e) f)) (mulP (mulP g h) i) = mulP (mulP (mulP (mulP a e) i) (mulP (mulP d h) c)) (mulP (mulP g b) f) := fun a b c d e f g h i => by ac_rfl
    rw [this]
    grind
def fi (n : Nat) (x : Int) : Fq n := ⟨(x % ((n : Int) + 1)).toNat, by have := Int.emod_lt_of_pos x (show (0 : Int) < (n : Int) + 1 by omega); have := Int.emod_nonneg x (show (n : Int) + 1 ≠ 0 by omega); omega⟩
theorem qak (n : Nat) (x : Int) : (((fi n x).val : Nat) : Int) = x % ((n : Int) + 1) := by
  have := Int.emod_nonneg x (show (n : Int) + 1 ≠ 0 by omega)
  show (((x % ((n : Int) + 1)).toNat : Nat) : Int) = _
  omega
theorem qff {n : Nat} {a b : Fq n} (h : ((a.val : Nat) : Int) = (b.val : Nat)) : a = b := Fin.ext (by omega)
theorem qay (n : Nat) (x y : Int) : fi n (x + y) = fi n x + fi n y := by
  apply qff
  rw [Fin.val_add, Int.natCast_emod, Int.natCast_add, qak, qak, qak, Int.natCast_add, Int.natCast_one, ← Int.add_emod]
theorem J3 (n : Nat) (x y : Int) : fi n (x * y) = fi n x * fi n y := by
  apply qff
  rw [Fin.val_mul, Int.natCast_emod, Int.natCast_mul, qak, qak, qak, Int.natCast_add, Int.natCast_one, ← Int.mul_emod]
theorem qbc (n : Nat) (x : Int) : fi n x = 0 ↔ ((n : Int) + 1) ∣ x := by
  rw [Int.dvd_iff_emod_eq_zero, ← qak]
  constructor
  · intro h; rw [h]; rfl
  · intro h; exact qff (by rw [h]; rfl)
theorem qdg (n : Nat) : fi n 0 = 0 := (qbc n 0).2 ⟨0, by omega⟩
theorem fi_neg (n : Nat) (x : Int) : fi n (-x) = - fi n x := by
  have := qay n x (-x)
  rw [show x + -x = 0 by omega, qdg] at this
  grind
theorem qn3 (n : Nat) (x y : Int) : fi n (x - y) = fi n x - fi n y := by
  rw [Int.sub_eq_add_neg, qay, fi_neg]
  grind
theorem fi_eq (n : Nat) (x y : Int) : fi n x = fi n y ↔ ((n : Int) + 1) ∣ x - y := by
  rw [← qbc, qn3]
  constructor <;> intro h <;> grind
theorem fi_mod (n : Nat) (x : Int) : fi n (x % ((n : Int) + 1)) = fi n x := by
  rw [fi_eq]
  exact ⟨-(x / ((n : Int) + 1)), by have := Int.mul_ediv_add_emod x ((n : Int) + 1); grind⟩
theorem qbn (n : Nat) (a : Fq n) : fi n (a.val : Nat) = a := qff (by rw [qak, Int.emod_eq_of_lt (by omega) (by have := a.isLt; omega)])
end Go.Proofs.Ytmgbpmihbljngaa.PA
namespace Go.Proofs.Ytmgbpmihbljngaa.PA
open Go.RowKit Go.Proofs.YtmgbpmihbljngaaW.PrintWords Go.Proofs.YtmgbpmihbljngaaW.PrintLast Go.Proofs.YtmgbpmihbljngaaW.PrintMore
set_option linter.unusedVariables false
set_option linter.unusedSimpArgs false
def nn (p : Int) : Nat := p.toNat - 1
theorem nn_p {p : Int} (hp : zh p = true) : ((nn p : Nat) : Int) + 1 = p := by have := z5 hp; unfold nn; omega
theorem Jk {p : Int} (hp : zh p = true) (x : Int) : fi (nn p) x = 0 ↔ p ∣ x := by rw [qbc, nn_p hp]
theorem fp_eq {p : Int} (hp : zh p = true) (x y : Int) : fi (nn p) x = fi (nn p) y ↔ p ∣ x - y := by rw [fi_eq, nn_p hp]
theorem qbg {p : Int} (hp : zh p = true) (x : Int) : fi (nn p) (x % p) = fi (nn p) x := by
  have := fi_mod (nn p) x
  rwa [nn_p hp] at this
theorem fi_one (n : Nat) : fi (n + 1) 1 = 1 := by
  apply qff
  rw [qak, Int.emod_eq_of_lt (by omega) (by omega)]
  rfl
theorem qfy {p : Int} (hp : zh p = true) : fi (nn p) 1 = 1 := by
  have := z5 hp
  obtain ⟨m, hm⟩ : ∃ m, nn p = m + 1 := ⟨nn p - 1, by unfold nn; omega⟩
  rw [hm]; exact fi_one m
theorem qj6 {p : Int} (hp : zh p = true) : FldH (nn p) := fun a ha => by
  have hb := z5 hp
  have hlt : ((a.val : Nat) : Int) < p := by have := a.isLt; have := nn_p hp; omega
  have hne : ((a.val : Nat) : Int) ≠ 0 := fun e => ha (Fin.ext (by show a.val = 0; omega))
  obtain ⟨_, _, _, h, _⟩ := Q7 hp (x := ((a.val : Nat) : Int)) (by omega) hlt
  refine ⟨fi (nn p) (invP p ((a.val : Nat) : Int)), ?_⟩
  have e : a = fi (nn p) ((a.val : Nat) : Int) := (qbn _ a).symm
  rw [e, ← J3, qbn, ← qbg hp, h hne, qfy hp]
theorem qep {p : Int} (hp : zh p = true) {x : Int} (h0 : 0 < x) (h1 : x < 7) : fi (nn p) x ≠ 0 := fun h => by
  have hb := z5 hp
  have := Int.le_of_dvd h0 ((Jk hp x).1 h)
  omega
theorem fp_1 {p : Int} (hp : zh p = true) : (1 : Fq (nn p)) ≠ 0 := by rw [← qfy hp]; exact qep hp (by omega) (by omega)
theorem qnf {p : Int} (hp : zh p = true) : fi (nn p) 2 = 2 := by rw [show (2 : Int) = 1 + 1 from rfl, qay, qfy hp]; grind
theorem qm4 {p : Int} (hp : zh p = true) : fi (nn p) 3 = 3 := by rw [show (3 : Int) = 2 + 1 from rfl, qay, qfy hp, qnf hp]; grind
theorem fp_2 {p : Int} (hp : zh p = true) : (2 : Fq (nn p)) ≠ 0 := by rw [← qnf hp]; exact qep hp (by omega) (by omega)
theorem fp_3 {p : Int} (hp : zh p = true) : (3 : Fq (nn p)) ≠ 0 := by rw [← qm4 hp]; exact qep hp (by omega) (by omega)
end Go.Proofs.Ytmgbpmihbljngaa.PA
namespace Go.Proofs.Ytmgbpmihbljngaa.PA
open Go.RowKit Go.Proofs.YtmgbpmihbljngaaW.PrintWords Go.Proofs.YtmgbpmihbljngaaW.PrintLast Go.Proofs.YtmgbpmihbljngaaW.PrintMore
set_option linter.unusedVariables false
set_option linter.unusedSimpArgs false
theorem qe8 (p : Int) : ∀ (d c : Nat) (L O : List (List Int)), (redP p d c L O).length ≤ L.length + O.length
  | 0, _, L, O => by rw [redP]; omega
  | d + 1, c, L, O => by
    rw [redP]
    split
    · exact qe8 p d (c + 1) L O
    · next i hf =>
      have hi := (qc3 hf).1
      refine Nat.le_trans (qe8 p d (c + 1) _ _) ?_
      simp [List.length_eraseIdx, hi]
      omega
def qb9 (p : Int) (w : Nat) (L : List (List Int)) : Nat := (redP p w 0 L []).length
end Go.Proofs.Ytmgbpmihbljngaa.PA
namespace Go.Proofs.Ytmgbpmihbljngaa.PA
open Go.RowKit Go.Proofs.YtmgbpmihbljngaaW.PrintWords Go.Proofs.YtmgbpmihbljngaaW.PrintLast Go.Proofs.YtmgbpmihbljngaaW.PrintMore
set_option linter.unusedVariables false
set_option linter.unusedSimpArgs false
theorem qf8 {p : Int} (hp : zh p = true) {w : Nat} {L M : List (List Int)} (hL : okR p w L) (hM : okR p w M) (h : ∀ r ∈ L, Sp p w M (fn r)) : qb9 p w L ≤ qb9 p w M := by
  have hb := z5 hp
  obtain ⟨P, e1, _, hP, _, h2⟩ := qaq hp hL
  obtain ⟨Q, e3, _, hQ, h4, _⟩ := qaq hp hM
  rw [qb9, qb9, e1, e3, List.length_map, List.length_map]
  exact hP.len_le (by omega) hQ fun x hx => Sp.sub h4 (Sp.sub h (h2 x hx))
theorem qkt {p : Int} {w : Nat} (L : List (List Int)) : qb9 p w L ≤ L.length := by
  have := qe8 p w 0 L []
  simpa [qb9] using this
end Go.Proofs.Ytmgbpmihbljngaa.PA
namespace Go.Proofs.Ytmgbpmihbljngaa.PA
open Go.RowKit Go.Proofs.YtmgbpmihbljngaaW.PrintWords Go.Proofs.YtmgbpmihbljngaaW.PrintLast Go.Proofs.YtmgbpmihbljngaaW.PrintMore
set_option linter.unusedVariables false
set_option linter.unusedSimpArgs false
theorem Qy {p : Int} (hp : zh p = true) {w : Nat} {L : List (List Int)} (hL : okR p w L) :
    ∃ N : List (Nat × List Int), Q1 p w L = N.map Prod.snd ∧ Rref p w N ∧ (∀ x ∈ N, ∀ r ∈ L, p ∣ dt w (fn r) (fn x.2)) ∧ ∀ v : Nat → Int, (∀ r ∈ L, p ∣ dt w (fn r) v) → Sp p w (N.map Prod.snd) v := by
  have hb := z5 hp
  obtain ⟨e1, _, hP, h1, h2⟩ := qac hp hL
  obtain ⟨N, e3, _, hN, h4, h5⟩ := qaq hp (J7 (by omega) hP)
  have hcomm : ∀ u v : Nat → Int, dt w u v = dt w v u := fun u v => by
    rw [dt, dt]; congr 1; exact List.map_congr_left fun j _ => Int.mul_comm _ _
  refine ⟨N, e3, hN, fun x hx r hr => ?_, fun v hv => ?_⟩
  · refine qno (L := (Jt p w L).map Prod.snd) (fun s hs => ?_) (h1 r hr)
    obtain ⟨z, hz, rfl⟩ := List.mem_map.1 hs
    rw [hcomm]
    refine qno (L := Zk p w (Jt p w L)) (fun q hq => ?_) (h5 x hx)
    rw [hcomm]
    exact qje hP hz hq
  · exact Sp.sub h4 (qf6 hP fun x hx => qno hv (h2 x hx))
theorem qnd {p : Int} (hp : zh p = true) {w : Nat} {L : List (List Int)} (hL : okR p w L) (hr : qb9 p w L < w) : Q1 p w L ≠ [] := by
  have hb := z5 hp
  obtain ⟨e1, _, hP, h1, h2⟩ := qac hp hL
  rw [qb9, e1, List.length_map] at hr
  obtain ⟨c, hc, hf⟩ := qiz hP hr
  obtain ⟨N, e3, _, hN, h4, h5⟩ := qaq hp (J7 (by omega) hP)
  intro e
  rw [Q1] at e
  rw [e] at e3
  have hN0 : N.map Prod.snd = [] := e3.symm
  have hs := h4 (Qn p w (Jt p w L) c) (List.mem_map.2 ⟨c, List.mem_filter.2 ⟨by simpa using hc, hf⟩, rfl⟩)
  rw [hN0] at hs
  cases hs with
  | zero _ hz =>
    have := hz c hc
    rw [Z6 hP hc (qas hf), if_pos rfl] at this
    exact qbd (by omega) this
  | add _ u r t hr2 _ _ => exact absurd hr2 (by simp)
end Go.Proofs.Ytmgbpmihbljngaa.PA
namespace Go.Proofs.Ytmgbpmihbljngaa.PA
open Go.RowKit Go.Proofs.YtmgbpmihbljngaaW.PrintWords Go.Proofs.YtmgbpmihbljngaaW.PrintLast Go.Proofs.YtmgbpmihbljngaaW.PrintMore
set_option linter.unusedVariables false
set_option linter.unusedSimpArgs false
def tr (w : Nat) (L : List (List Int)) : List (List Int) := (List.range w).map fun j => L.map fun r => fn r j
theorem qg0 (L : List (List Int)) (f : List Int → Int) (i : Nat) (hi : i < L.length) : fn (L.map f) i = f (L.getD i []) := by
  rw [fn, Zu _ i (by rw [List.length_map]; exact hi), List.getElem_map, List.getD_eq_getElem?_getD, List.getElem?_eq_getElem hi]; rfl
theorem tr_ok {p : Int} {w : Nat} {L : List (List Int)} (hL : okR p w L) : okR p L.length (tr w L) := fun r hr => by
  obtain ⟨j, hj, rfl⟩ := List.mem_map.1 hr
  refine ⟨by simp, fun x hx => ?_⟩
  obtain ⟨q, hq, rfl⟩ := List.mem_map.1 hx
  exact Zc (hL q hq) j (by simpa using hj)
theorem qkf {p : Int} {w : Nat} {N : List (Nat × List Int)} (h : Rref p w N) : ((List.range w).filter (jz N)).length + N.length ≤ w := by
  have h1 := Q9 (P := N) (Q := ((List.range w).filter fun c => !jz N c).map fun c => (c, ([] : List Int))) h.inc (by
    rw [List.pairwise_map]; exact List.Pairwise.sublist List.filter_sublist List.pairwise_lt_range) (fun x hx => by
    refine ⟨(x.1, []), List.mem_map.2 ⟨x.1, List.mem_filter.2 ⟨by simpa using h.lt x hx, ?_⟩, rfl⟩, rfl⟩
    cases hf : jz N x.1 with
    | false => rfl
    | true => exact absurd rfl (qas hf x hx))
  rw [List.length_map] at h1
  have h2 : ((List.range w).filter (jz N)).length + ((List.range w).filter fun c => !jz N c).length = w := by
    have : ∀ l : List Nat, (l.filter (jz N)).length + (l.filter fun c => !jz N c).length = l.length := fun l => by
      induction l with
      | nil => rfl
      | cons a l ih => cases hf : jz N a <;> simp [hf] <;> omega
    simpa using this (List.range w)
  omega
theorem qnn {p : Int} (hp : zh p = true) {w : Nat} {L : List (List Int)} (hL : okR p w L) : qb9 p w L + (Q1 p L.length (tr w L)).length ≤ L.length := by
  obtain ⟨N, e, hN, h4, _⟩ := Qy hp (tr_ok hL)
  rw [e, List.length_map]
  have hc := qkf hN
  have hok : okR p w (((List.range L.length).filter (jz N)).map fun i => L.getD i []) := fun r hr => by
    obtain ⟨i, hi, rfl⟩ := List.mem_map.1 hr
    exact hL _ (Qt (by have := (List.mem_filter.1 hi).1; simpa using this))
  have hmono := qf8 hp hL hok (fun r hr => by
    obtain ⟨i, hi, rfl⟩ := List.mem_iff_getElem.1 hr
    have ei : L[i] = L.getD i [] := by rw [List.getD_eq_getElem?_getD, List.getElem?_eq_getElem hi]; rfl
    by_cases hf : jz N i = true
    · exact Sp.mem (List.mem_map.2 ⟨i, List.mem_filter.2 ⟨by simpa using hi, hf⟩, ei.symm⟩)
    · have hex : ∃ z ∈ N, z.1 = i := by
        by_cases he : ∃ z ∈ N, z.1 = i
        · exact he
        · exact absurd (qc2 he) hf
      obtain ⟨z, hz, rfl⟩ := hex
      have hsp : ∀ l : List Nat, (∀ c ∈ l, c ∈ (List.range L.length).filter (jz N)) → Sp p w (((List.range L.length).filter (jz N)).map fun i => L.getD i []) fun j => (l.map fun c => fn z.2 c * fn (L.getD c []) j).sum := by
        intro l
        induction l with
        | nil => intro _; exact .zero _ fun j _ => by simp
        | cons c l ih =>
          intro hl
          exact .add _ _ (L.getD c []) (fn z.2 c) (List.mem_map.2 ⟨c, hl c (by simp), rfl⟩) (ih fun d hd => hl d (by simp [hd])) fun j _ => by
            rw [List.map_cons, List.sum_cons]; exact ⟨0, by omega⟩
      refine ((hsp _ fun c hc => hc).scale (-1)).congr fun j hj => ?_
      have hd := h4 z hz (L.map fun r => fn r j) (List.mem_map.2 ⟨j, by simpa using hj, rfl⟩)
      have hcomm : dt L.length (fn (L.map fun r => fn r j)) (fn z.2) = dt L.length (fn z.2) (fn (L.map fun r => fn r j)) := by
        rw [dt, dt]; congr 1; exact List.map_congr_left fun i _ => Int.mul_comm _ _
      rw [hcomm, qj9 hN hz, qg0 L (fun r => fn r j) z.1 (hN.lt z hz)] at hd
      have e3 : (((List.range L.length).filter (jz N)).map fun c => fn z.2 c * fn (L.map fun r => fn r j) c) = (((List.range L.length).filter (jz N)).map fun c => fn z.2 c * fn (L.getD c []) j) := by
        refine List.map_congr_left fun c hc => ?_
        have hcl : c < L.length := by have := (List.mem_filter.1 hc).1; simpa using this
        rw [qg0 L (fun r => fn r j) c hcl]
      rw [e3] at hd
      rw [ei]
      exact Zh 1 hd (by omega))
  have hle := qkt (p := p) (w := w) (((List.range L.length).filter (jz N)).map fun i => L.getD i [])
  rw [List.length_map] at hle
  omega
end Go.Proofs.Ytmgbpmihbljngaa.PA
namespace Go.Proofs.Ytmgbpmihbljngaa.PA
open Go.RowKit Go.Proofs.YtmgbpmihbljngaaW.PrintWords Go.Proofs.YtmgbpmihbljngaaW.PrintLast Go.Proofs.YtmgbpmihbljngaaW.PrintMore
set_option linter.unusedVariables false
set_option linter.unusedSimpArgs false
theorem qe0 (n : Nat) (u v : Nat → Int) : ∀ w, fi n (dt w u v) = sm w fun j => fi n (u j) * fi n (v j)
  | 0 => by rw [sm]; exact qdg n
  | w + 1 => by
    have e : dt (w + 1) u v = dt w u v + u w * v w := by simp [dt, List.range_succ]
    rw [e, qay, J3, qe0 n u v w, sm]
theorem Sp.sumN {p : Int} {w : Nat} {L : List (List Int)} (t : Nat → Int) : ∀ m, m ≤ L.length → Sp p w L fun x => dt m t fun j => fn (L.getD j []) x
  | 0, _ => .zero _ fun j _ => by simp [dt]
  | m + 1, h => by
    refine ((Sp.sumN t m (by omega)).sum ((Sp.mem (Qt (L := L) (i := m) (by omega))).scale (t m))).congr fun j _ => ?_
    have e : dt (m + 1) t (fun k => fn (L.getD k []) j) = dt m t (fun k => fn (L.getD k []) j) + t m * fn (L.getD m []) j := by simp [dt, List.range_succ]
    rw [e]; exact ⟨0, by omega⟩
theorem qab {L : List (List Int)} {r : List Int} (h : r ∈ L) : ∃ i, i < L.length ∧ L.getD i [] = r := by
  obtain ⟨i, hi, e⟩ := List.mem_iff_getElem.1 h
  exact ⟨i, hi, by rw [List.getD_eq_getElem?_getD, List.getElem?_eq_getElem hi]; exact e⟩
theorem Sp.lin4 {p : Int} (hp : zh p = true) {w : Nat} {N : List (List Int)} (hN : N.length = 4) {v : Nat → Int} (h : Sp p w N v) : ∃ l : Nat → Fq (nn p), ∀ j, j < w → fi (nn p) (v j) = PA.lin4 l fun i => fi (nn p) (fn (N.getD i []) j) := by
  induction h with
  | zero v hz => exact ⟨fun _ => 0, fun j hj => by rw [(Jk hp _).2 (hz j hj)]; simp only [PA.lin4]; grind⟩
  | add v u r t hr _ h2 ih =>
    obtain ⟨l, hl⟩ := ih
    obtain ⟨i, hi, e⟩ := qab hr
    refine ⟨fun k => l k + if k = i then fi (nn p) t else 0, fun j hj => ?_⟩
    rw [(fp_eq hp _ _).2 (h2 j hj), qay, J3, hl j hj]
    rcases (show i = 0 ∨ i = 1 ∨ i = 2 ∨ i = 3 by omega) with rfl | rfl | rfl | rfl <;> (rw [← e]; simp [PA.lin4]; grind)
def qb6 (w i : Nat) : List Int := (List.replicate w 0).set i 1
theorem qkk (w i j : Nat) (hi : i < w) : fn (qb6 w i) j = if j = i then 1 else 0 := by
  rw [qb6, qhc _ _ _ _ (by simpa using hi)]
  split
  · rfl
  · simp only [fn, rd, Int.toNat_natCast, List.getD_eq_getElem?_getD, List.getElem?_replicate]
    split <;> rfl
theorem qlf {p : Int} (hp : 2 ≤ p) (w i : Nat) : (qb6 w i).length = w ∧ ∀ x ∈ qb6 w i, 0 ≤ x ∧ x < p := by
  refine ⟨by simp [qb6], fun x hx => ?_⟩
  rcases List.mem_or_eq_of_mem_set hx with h | h
  · have := (List.mem_replicate.1 h).2; omega
  · omega
theorem qkr (v : Nat → Int) (i : Nat) : ∀ w, dt w (fun j => if j = i then 1 else 0) v = if i < w then v i else 0
  | 0 => by simp [dt]
  | w + 1 => by
    have e : dt (w + 1) (fun j => if j = i then 1 else 0) v = dt w (fun j => if j = i then 1 else 0) v + (if w = i then 1 else 0) * v w := by simp [dt, List.range_succ]
    rw [e, qkr v i w]
    by_cases h : w = i
    · subst h; simp
    · by_cases h2 : i < w
      · rw [if_pos h2, if_neg h, if_pos (show i < w + 1 by omega)]; omega
      · rw [if_neg h2, if_neg h, if_neg (show ¬ i < w + 1 by omega)]; omega
theorem qow {p : Int} (hp : zh p = true) {w : Nat} {L : List (List Int)} (hL : okR p w L) : w ≤ (Q1 p w L).length + L.length := by
  have hb := z5 hp
  obtain ⟨N, e, hN, _, hc⟩ := Qy hp hL
  rw [e, List.length_map]
  apply Classical.byContradiction
  intro hlt
  have hM : okR p w (L ++ N.map fun x => qb6 w x.1) := qg8 hL fun r hr => by
    obtain ⟨x, _, rfl⟩ := List.mem_map.1 hr
    exact qlf (by omega) w x.1
  have hne := qnd hp hM (Nat.lt_of_le_of_lt (qkt _) (by simp; omega))
  obtain ⟨Q, e2, hQ, h2, _⟩ := Qy hp hM
  rw [e2] at hne
  cases Q with
  | nil => exact hne rfl
  | cons z Q =>
    have hv : Sp p w (N.map Prod.snd) (fn z.2) := hc _ fun r hr => h2 z (by simp) r (List.mem_append_left _ hr)
    have hz := hN.coord hv z.1 (hQ.lt z (by simp))
    have hcs : p ∣ cs N (fn z.2) z.1 := qen fun x hx => by
      have := h2 z (by simp) (qb6 w x.1) (List.mem_append_right _ (List.mem_map.2 ⟨x, hx, rfl⟩))
      have hf : fn (qb6 w x.1) = fun j => if j = x.1 then 1 else 0 := funext fun j => qkk w x.1 j (hN.lt x hx)
      rw [hf, qkr, if_pos (hN.lt x hx)] at this
      exact Int.dvd_mul_of_dvd_left this
    rw [hQ.one z (by simp)] at hz
    exact qbd (p := p) (by omega) (Zo 1 1 hz hcs (by omega))
theorem tr_tr {p : Int} {w : Nat} {L : List (List Int)} (hL : okR p w L) : tr L.length (tr w L) = L := by
  apply List.ext_getElem
  · simp [tr]
  · intro i h1 h2
    simp only [tr, List.getElem_map, List.getElem_range, List.map_map]
    have hl := (hL _ (List.getElem_mem h2)).1
    apply List.ext_getElem
    · simp [hl]
    · intro j h3 h4
      simp only [List.getElem_map, List.getElem_range, Function.comp]
      rw [qg0 _ _ _ h2, List.getD_eq_getElem?_getD, List.getElem?_eq_getElem h2]
      exact Zu _ _ h4
theorem fn_tr {w : Nat} (L : List (List Int)) (i j : Nat) (hi : i < w) (hj : j < L.length) : fn ((tr w L).getD i []) j = fn (L.getD j []) i := by
  have e : (tr w L).getD i [] = L.map fun r => fn r i := by simp [tr, List.getD_eq_getElem?_getD, hi]
  rw [e, qg0 _ _ _ hj]
theorem qj1 : ∀ p ∈ ([7, 11, 13, 17, 19, 23, 29, 31] : List Int), qb9 p 6 ((List.range 6).map (qb6 6)) = 6 := by decide +kernel
end Go.Proofs.Ytmgbpmihbljngaa.PA
namespace Go.Proofs.Ytmgbpmihbljngaa.PA
open Go.RowKit Go.Proofs.YtmgbpmihbljngaaW.PrintWords Go.Proofs.YtmgbpmihbljngaaW.PrintLast Go.Proofs.YtmgbpmihbljngaaW.PrintMore
set_option linter.unusedVariables false
set_option linter.unusedSimpArgs false
def p3 (n : Nat) (t : Int × Int × Int) : Nat → Fq n
  | 0 => fi n t.1
  | 1 => fi n t.2.1
  | _ => fi n t.2.2
def cubR (p : Int) (t : Int × Int × Int) : List Int := [t.1 * t.1 * t.1 % p, t.1 * t.1 * t.2.1 % p, t.1 * t.1 * t.2.2 % p, t.1 * t.2.1 * t.2.1 % p, t.1 * t.2.1 * t.2.2 % p, t.1 * t.2.2 * t.2.2 % p, t.2.1 * t.2.1 * t.2.1 % p, t.2.1 * t.2.1 * t.2.2 % p, t.2.1 * t.2.2 * t.2.2 % p, t.2.2 * t.2.2 * t.2.2 % p]
theorem qky {p : Int} (hp : zh p = true) (t : Int × Int × Int) : (cubR p t).length = 10 ∧ ∀ x ∈ cubR p t, 0 ≤ x ∧ x < p := by
  have hb := z5 hp
  refine ⟨rfl, fun x hx => ?_⟩
  have hm : ∀ y : Int, 0 ≤ y % p ∧ y % p < p := fun y => ⟨Int.emod_nonneg _ (by omega), Int.emod_lt_of_pos _ (by omega)⟩
  simp only [cubR, List.mem_cons, List.not_mem_nil, or_false] at hx
  rcases hx with rfl | rfl | rfl | rfl | rfl | rfl | rfl | rfl | rfl | rfl <;> exact hm _
theorem qc0 {p : Int} (hp : zh p = true) (t : Int × Int × Int) (v : Nat → Fq (nn p)) : (sm 10 fun j => fi (nn p) (fn (cubR p t) j) * v j) = valC v (p3 (nn p) t) := by
  simp only [sm, fn, rd, Int.toNat_natCast, cubR, List.getD_cons_zero, List.getD_cons_succ, qbg hp, J3, valC, p3]
  grind
theorem qo1 {n : Nat} {P : Nat → Nat → Fq n} (h : ∀ i j k, i < 6 → j < i → k < j → ev3 (Q3 (P i) (P j)) (P k) ≠ 0) : gen3 P := by
  have c1 : ∀ A B C : Nat → Fq n, ev3 (Q3 A B) C = ev3 (Q3 B C) A := fun A B C => by simp only [ev3, Q3]; grind
  have c2 : ∀ A B C : Nat → Fq n, ev3 (Q3 A B) C = - ev3 (Q3 B A) C := fun A B C => by simp only [ev3, Q3]; grind
  intro i j k hi hj hk h1 h2 h3
  rcases Nat.lt_or_gt_of_ne h1 with a | a <;> rcases Nat.lt_or_gt_of_ne h2 with b | b <;> rcases Nat.lt_or_gt_of_ne h3 with c | c
  · have := h k j i hk b a; rw [c2, ← c1, ]; grind
  · omega
  · have := h j k i hj b c; rw [c1]; exact this
  · have := h j i k hj a c; rw [c2]; grind
  · have := h k i j hk c a; rw [c1, c1]; exact this
  · have := h i k j hi c b; rw [c2, c1, c1, ]; grind
  · omega
  · exact h i j k hi a b
theorem sep6 {n : Nat} (hF : FldH n) {P : Nat → Nat → Fq n} (hG : gen3 P) : ∀ i, i < 6 → ∃ v : Nat → Fq n, (∀ x, x < 6 → x ≠ i → valC v (P x) = 0) ∧ valC v (P i) ≠ 0 := by
  have key : ∀ i a b c d e, i < 6 → a < 6 → b < 6 → c < 6 → d < 6 → e < 6 → (∀ x, x < 6 → x ≠ i → x = a ∨ x = b ∨ x = c ∨ x = d ∨ x = e) → i ≠ a → i ≠ b → i ≠ c → i ≠ d → i ≠ e → a ≠ b → c ≠ d → e ≠ a → ∃ v : Nat → Fq n, (∀ x, x < 6 → x ≠ i → valC v (P x) = 0) ∧ valC v (P i) ≠ 0 := by
    intro i a b c d e hi ha hb hc hd he hx ia ib ic id ie ab cd ea
    refine ⟨lin6 P a b c d e a, fun x h6 hxi => ?_, ?_⟩
    · rw [Zx]
      rcases hx x h6 hxi with rfl | rfl | rfl | rfl | rfl
      · rw [Zn]; grind
      · rw [Z0]; grind
      · rw [Zn]; grind
      · rw [Z0]; grind
      · rw [Zn]; grind
    · rw [Zx]
      exact fnz hF (fnz hF (hG a b i ha hb hi ab (Ne.symm ib) (Ne.symm ia)) (hG c d i hc hd hi cd (Ne.symm id) (Ne.symm ic))) (hG e a i he ha hi ea (Ne.symm ia) (Ne.symm ie))
  intro i hi
  rcases (show i = 0 ∨ i = 1 ∨ i = 2 ∨ i = 3 ∨ i = 4 ∨ i = 5 by omega) with rfl | rfl | rfl | rfl | rfl | rfl
  · exact key 0 1 2 3 4 5 (by omega) (by omega) (by omega) (by omega) (by omega) (by omega) (by omega) (by omega) (by omega) (by omega) (by omega) (by omega) (by omega) (by omega) (by omega)
  · exact key 1 0 2 3 4 5 (by omega) (by omega) (by omega) (by omega) (by omega) (by omega) (by omega) (by omega) (by omega) (by omega) (by omega) (by omega) (by omega) (by omega) (by omega)
  · exact key 2 1 0 3 4 5 (by omega) (by omega) (by omega) (by omega) (by omega) (by omega) (by omega) (by omega) (by omega) (by omega) (by omega) (by omega) (by omega) (by omega) (by omega)
  · exact key 3 1 2 0 4 5 (by omega) (by omega) (by omega) (by omega) (by omega) (by omega) (by omega) (by omega) (by omega) (by omega) (by omega) (by omega) (by omega) (by omega) (by omega)
  · exact key 4 1 2 3 0 5 (by omega) (by omega) (by omega) (by omega) (by omega) (by omega) (by omega) (by omega) (by omega) (by omega) (by omega) (by omega) (by omega) (by omega) (by omega)
  · exact key 5 1 2 3 4 0 (by omega) (by omega) (by omega) (by omega) (by omega) (by omega) (by omega) (by omega) (by omega) (by omega) (by omega) (by omega) (by omega) (by omega) (by omega)
def ptL (p : Int) (Q : List (Int × Int × Int)) (i : Nat) : Nat → Fq (nn p) := p3 (nn p) (Q.getD i (0, 0, 0))
def basP (p : Int) (Q : List (Int × Int × Int)) : List (List Int) := Q1 p 10 (Q.map (cubR p))
def basF (p : Int) (Q : List (Int × Int × Int)) (i j : Nat) : Fq (nn p) := fi (nn p) (fn ((basP p Q).getD i []) j)
theorem qdu {p : Int} (hp : zh p = true) (Q : List (Int × Int × Int)) : okR p 10 (Q.map (cubR p)) := fun r hr => by
  obtain ⟨t, _, rfl⟩ := List.mem_map.1 hr
  exact qky hp t
theorem qhb (p : Int) (Q : List (Int × Int × Int)) (i : Nat) (hi : i < Q.length) : (Q.map (cubR p)).getD i [] = cubR p (Q.getD i (0, 0, 0)) := by
  simp [List.getD_eq_getElem?_getD, hi]
theorem ql6 {n : Nat} (c : Fq n) (v P : Nat → Fq n) : valC (fun j => c * v j) P = c * valC v P := by simp only [valC]; grind
theorem bas_le {p : Int} (hp : zh p = true) {Q : List (Int × Int × Int)} (h6 : Q.length = 6) (hG : gen3 (ptL p Q)) : (basP p Q).length ≤ 4 := by
  have hb := z5 hp
  have hR := qdu hp Q
  have hT : okR p 6 (tr 10 (Q.map (cubR p))) := by have := tr_ok hR; rwa [List.length_map, h6] at this
  have h1 := qnn hp hT
  have hl : (tr 10 (Q.map (cubR p))).length = 10 := by simp [tr]
  have ht : tr 6 (tr 10 (Q.map (cubR p))) = Q.map (cubR p) := by have := tr_tr hR; rwa [List.length_map, h6] at this
  rw [hl, ht] at h1
  have hI : okR p 6 ((List.range 6).map (qb6 6)) := fun r hr => by
    obtain ⟨i, _, rfl⟩ := List.mem_map.1 hr
    exact qlf (by omega) 6 i
  have h2 := qf8 hp hI hT fun r hr => by
    obtain ⟨i, hi, rfl⟩ := List.mem_map.1 hr
    have hi6 : i < 6 := by simpa using hi
    obtain ⟨v, hv0, hv1⟩ := sep6 (qj6 hp) hG i hi6
    obtain ⟨c, hc⟩ := qj6 hp _ hv1
    refine (Sp.sumN (L := tr 10 (Q.map (cubR p))) (fun j => (((c * v j : Fq (nn p)).val : Nat) : Int)) 10 (by omega)).congr fun x hx => ?_
    rw [← fp_eq hp, qe0, qkk 6 i x hi6]
    have e : (sm 10 fun j => fi (nn p) (((c * v j : Fq (nn p)).val : Nat) : Int) * fi (nn p) (fn ((tr 10 (Q.map (cubR p))).getD j []) x)) = c * valC v (ptL p Q x) := by
      rw [← ql6, ptL, ← qc0 hp]
      refine j5 _ fun j hj => ?_
      rw [qbn, fn_tr _ _ _ hj (by rw [List.length_map]; omega), qhb _ _ _ (by omega)]
      grind
    rw [e]
    by_cases hxi : x = i
    · subst hxi; rw [if_pos rfl, qfy hp]; grind
    · rw [if_neg hxi, hv0 x hx hxi, qdg]; grind
  rw [qj1 p (by have := Jw hp; simpa using this)] at h2
  show (Q1 p 10 (Q.map (cubR p))).length ≤ 4
  omega
theorem Jx {p : Int} (hp : zh p = true) {Q : List (Int × Int × Int)} (h6 : Q.length = 6) (hG : gen3 (ptL p Q)) : (basP p Q).length = 4 := by
  have h1 := bas_le hp h6 hG
  have h2 := qow hp (qdu hp Q)
  rw [List.length_map, h6] at h2
  have : 10 ≤ (basP p Q).length + 6 := h2
  omega
theorem qoi {p : Int} (hp : zh p = true) {Q : List (Int × Int × Int)} (h6 : Q.length = 6) (hG : gen3 (ptL p Q)) (v : Nat → Fq (nn p)) (hv : ∀ x, x < 6 → valC v (ptL p Q x) = 0) : ∃ l : Nat → Fq (nn p), ∀ j, j < 10 → v j = lin4 l fun i => basF p Q i j := by
  obtain ⟨N, e, hN, _, hc⟩ := Qy hp (qdu hp Q)
  have hs := hc (fun j => (((v j).val : Nat) : Int)) fun r hr => by
    obtain ⟨x, hx, rfl⟩ := qab hr
    rw [List.length_map, h6] at hx
    rw [← Jk hp, qe0, qhb _ _ _ (by omega)]
    simp only [qbn]
    rw [qc0 hp]
    exact hv x hx
  rw [← e] at hs
  obtain ⟨l, hl⟩ := Sp.lin4 hp (Jx hp h6 hG) hs
  exact ⟨l, fun j hj => by have := hl j hj; rwa [qbn] at this⟩
theorem qm2 {p : Int} (hp : zh p = true) {Q : List (Int × Int × Int)} (i x : Nat) (hi : i < (basP p Q).length) (hx : x < Q.length) : valC (basF p Q i) (ptL p Q x) = 0 := by
  obtain ⟨N, e, hN, h, _⟩ := Qy hp (qdu hp Q)
  have hm := Qt hi
  rw [basP, e] at hm
  obtain ⟨z, hz, ez⟩ := List.mem_map.1 hm
  have h1 := h z hz _ (Qt (L := Q.map (cubR p)) (i := x) (by rw [List.length_map]; omega))
  rw [qhb _ _ _ hx, ← Jk hp, qe0, qc0 hp, ez, ← e] at h1
  exact h1
theorem rel20 {p : Int} (hp : zh p = true) {Q : List (Int × Int × Int)} (h6 : Q.length = 6) (hG : gen3 (ptL p Q)) {T : List (List Int)} (hT : okR p 20 T) (hr : ∀ r ∈ T, ∃ e, ∀ c, c < 20 → fi (nn p) (fn r c) = proT (fun i => sprd (basF p Q i)) c e) : Q1 p 20 T ≠ [] := by
  have hb := z5 hp
  obtain ⟨f, ⟨c, hc, hf⟩, h⟩ := qn2 (qj6 hp) (fp_1 hp) (fp_2 hp) (fp_3 hp) (ptL p Q) hG (basF p Q) (qoi hp h6 hG)
  obtain ⟨N, e, hN, _, hs⟩ := Qy hp hT
  have h2 := hs (fun c => (((f c).val : Nat) : Int)) fun r hr' => by
    obtain ⟨q, hq⟩ := hr r hr'
    rw [← Jk hp, qe0, ← h q]
    refine j5 _ fun c hc => ?_
    rw [hq c hc, qbn]
    grind
  intro e0
  rw [e] at e0
  rw [e0] at h2
  cases h2 with
  | zero _ hz =>
    have := (Jk hp _).2 (hz c hc)
    rw [qbn] at this
    exact hf this
  | add _ u r t hr2 _ _ => exact absurd hr2 (by simp)
end Go.Proofs.Ytmgbpmihbljngaa.PA
namespace Go.Proofs.Ytmgbpmihbljngaa.PA
open Go.RowKit Go.Proofs.YtmgbpmihbljngaaW.PrintWords Go.Proofs.YtmgbpmihbljngaaW.PrintLast Go.Proofs.YtmgbpmihbljngaaW.PrintMore
set_option linter.unusedVariables false
set_option linter.unusedSimpArgs false
theorem qo4 (A B C p : Int) : A % p * (B % p) % p * (C % p) % p = A * B * C % p := by rw [Int.mul_emod (A * B) C p, Int.mul_emod A B p]
theorem qcm {p : Int} (hp : 7 ≤ p ∧ p ≤ 31) {x : Int} (hx : 0 ≤ x ∧ x < p) (n : Nat) (hn : n ≤ 3) : Ev (fun k => zt.f k p x (n : Int)) (x ^ n % p) := by
  have h0 : ∀ (d i : Nat), i + d = n → Ev (fun q => zt.l0 q p x (n : Int) (x ^ i % p) (i : Int)) (x ^ n % p) := by
    intro d
    induction d with
    | zero =>
      intro i hi
      obtain rfl : i = n := by omega
      exact Ev.step (f := fun _ => some (x ^ i % p)) (fun q => by rw [zt.l0, if_neg (by omega)]) (Ev.now _)
    | succ d ih =>
      intro i hi
      have hy : 0 ≤ x ^ i % p ∧ x ^ i % p < p := ⟨Int.emod_nonneg _ (by omega), Int.emod_lt_of_pos _ (by omega)⟩
      have hm := j7 hp hy hx
      refine Ev.step (fun q => by rw [zt.l0, if_pos (by omega), if_neg (by omega), wsm (i := x ^ i % p * x) (by omega) (by omega), wsm (i := (i : Int) + 1) (by omega) (by omega), Int.tmod_eq_emod_of_nonneg hm.1, show x ^ i % p * x % p = x ^ (i + 1) % p by rw [Int.pow_succ, Int.mul_emod, Int.emod_emod, ← Int.mul_emod]]) ?_
      exact ih (i + 1) (by omega)
  unfold zt.f
  have := h0 n 0 (by omega)
  rw [Int.pow_zero, Int.emod_eq_of_lt (by omega) (by omega)] at this
  exact this
def powL : List S41 := [⟨3, 0, 0⟩, ⟨2, 1, 0⟩, ⟨2, 0, 1⟩, ⟨1, 2, 0⟩, ⟨1, 1, 1⟩, ⟨1, 0, 2⟩, ⟨0, 3, 0⟩, ⟨0, 2, 1⟩, ⟨0, 1, 2⟩, ⟨0, 0, 3⟩]
theorem qja : Zd.f = some powL := rfl
def powN : List (Nat × Nat × Nat) := [(3, 0, 0), (2, 1, 0), (2, 0, 1), (1, 2, 0), (1, 1, 1), (1, 0, 2), (0, 3, 0), (0, 2, 1), (0, 1, 2), (0, 0, 3)]
theorem qg5 : ∀ i : Nat, i < 10 → (ze powL (i : Int)).f0 = (((powN.getD i (0, 0, 0)).1 : Nat) : Int) ∧ (ze powL (i : Int)).f1 = (((powN.getD i (0, 0, 0)).2.1 : Nat) : Int) ∧ (ze powL (i : Int)).f2 = (((powN.getD i (0, 0, 0)).2.2 : Nat) : Int) ∧ (powN.getD i (0, 0, 0)).1 ≤ 3 ∧ (powN.getD i (0, 0, 0)).2.1 ≤ 3 ∧ (powN.getD i (0, 0, 0)).2.2 ≤ 3 := by
  intro i hi
  rcases (show i = 0 ∨ i = 1 ∨ i = 2 ∨ i = 3 ∨ i = 4 ∨ i = 5 ∨ i = 6 ∨ i = 7 ∨ i = 8 ∨ i = 9 by omega) with rfl | rfl | rfl | rfl | rfl | rfl | rfl | rfl | rfl | rfl <;> exact ⟨rfl, rfl, rfl, by decide, by decide, by decide⟩
def monR (p : Int) (t : Int × Int × Int) (i : Nat) : Int := t.1 ^ (powN.getD i (0, 0, 0)).1 * t.2.1 ^ (powN.getD i (0, 0, 0)).2.1 * t.2.2 ^ (powN.getD i (0, 0, 0)).2.2 % p
theorem qil (p : Int) (t : Int × Int × Int) : (List.range 10).map (monR p t) = cubR p t := by
  have e : ∀ x : Int, x ^ 3 = x * x * x ∧ x ^ 2 = x * x ∧ x ^ 1 = x ∧ x ^ 0 = 1 := fun x => ⟨by grind, by grind, by grind, by grind⟩
  show [monR p t 0, monR p t 1, monR p t 2, monR p t 3, monR p t 4, monR p t 5, monR p t 6, monR p t 7, monR p t 8, monR p t 9] = _
  simp only [monR, powN, List.getD_cons_zero, List.getD_cons_succ, (e _).1, (e _).2.1, (e _).2.2.1, (e _).2.2.2, Int.mul_one, Int.one_mul, cubR, Int.mul_assoc]
theorem qcc {p : Int} (hp : 7 ≤ p ∧ p ≤ 31) (t : Int × Int × Int) (ht : inP p t) : Ev (fun k => qr.f k p t.1 t.2.1 t.2.2) (cubR p t) := by
  have h0 : ∀ (d i : Nat), i + d = 10 → Ev (fun q => qr.l0 q p ((List.range i).map (monR p t)) powL (i : Int) t.1 t.2.1 t.2.2) (cubR p t) := by
    intro d
    induction d with
    | zero =>
      intro i hi
      obtain rfl : i = 10 := by omega
      refine Ev.step (f := fun _ => some (cubR p t)) (fun q => by rw [qr.l0, if_neg (by omega), qil]) (Ev.now _)
    | succ d ih =>
      intro i hi
      obtain ⟨e0, e1, e2, l0, l1, l2⟩ := qg5 i (by omega)
      have hm : ∀ y : Int, 0 ≤ y % p ∧ y % p < p := fun y => ⟨Int.emod_nonneg _ (by omega), Int.emod_lt_of_pos _ (by omega)⟩
      have b1 := j7 hp (hm (t.1 ^ (powN.getD i (0, 0, 0)).1)) (hm (t.2.1 ^ (powN.getD i (0, 0, 0)).2.1))
      have b2 := j7 hp (hm ((t.1 ^ (powN.getD i (0, 0, 0)).1 % p) * (t.2.1 ^ (powN.getD i (0, 0, 0)).2.1 % p))) (hm (t.2.2 ^ (powN.getD i (0, 0, 0)).2.2))
      refine Ev.step (fun q => by rw [qr.l0, if_pos (by omega), if_pos (by omega), if_pos (by simp [powL]; omega), e0, e1, e2]) ?_
      refine Ev.bind (qcm hp ht.1 _ l0) (Ev.bind (qcm hp ht.2.1 _ l1) (Ev.no (by omega) (Ev.bind (qcm hp ht.2.2 _ l2) (Ev.yes (by simp; omega) ?_))))
      rw [wsm (i := (i : Int) + 1) (by omega) (by omega), wsm (i := t.1 ^ (powN.getD i (0, 0, 0)).1 % p * _) (by omega) (by omega), Int.tmod_eq_emod_of_nonneg b1.1, wsm (by omega) (by omega), Int.tmod_eq_emod_of_nonneg b2.1]
      have e : ((List.range i).map (monR p t)) ++ [t.1 ^ (powN.getD i (0, 0, 0)).1 % p * (t.2.1 ^ (powN.getD i (0, 0, 0)).2.1 % p) % p * (t.2.2 ^ (powN.getD i (0, 0, 0)).2.2 % p) % p] = (List.range (i + 1)).map (monR p t) := by
        rw [List.range_succ, List.map_append]
        congr 1
        show [_] = [monR p t i]
        rw [monR, qo4]
      rw [e]
      exact ih (i + 1) (by omega)
  unfold qr.f
  rw [qja]
  exact Ev.bind (Ev.k rfl) (h0 10 0 rfl)
end Go.Proofs.Ytmgbpmihbljngaa.PA
namespace Go.Proofs.Ytmgbpmihbljngaa.PA
open Go.RowKit Go.Proofs.YtmgbpmihbljngaaW.PrintWords Go.Proofs.YtmgbpmihbljngaaW.PrintLast Go.Proofs.YtmgbpmihbljngaaW.PrintMore
set_option linter.unusedVariables false
set_option linter.unusedSimpArgs false
theorem qk6 : Ev (fun k => qw.f k) powL := Ev.of qw.mono (k := 40) (by kernel_rfl)
theorem qcd {p x : Int} (hp : p ≤ 31) (hx : 0 ≤ x ∧ x < p) : ∀ n : Nat, n ≤ 3 → 0 ≤ x ^ n ∧ x ^ n ≤ 27000 := by
  intro n hn
  have h2 : 0 ≤ x * x ∧ x * x ≤ 900 := qfs hp hx.1 hx.2 hx.1 hx.2
  have h3 : 0 ≤ x * x * x ∧ x * x * x ≤ 900 * 30 := ⟨Int.mul_nonneg h2.1 hx.1, Int.mul_le_mul h2.2 (by omega) hx.1 (by omega)⟩
  rcases (show n = 0 ∨ n = 1 ∨ n = 2 ∨ n = 3 by omega) with rfl | rfl | rfl | rfl
  · rw [Int.pow_zero]; omega
  · rw [Int.pow_succ, Int.pow_zero, Int.one_mul]; omega
  · rw [Int.pow_succ, Int.pow_succ, Int.pow_zero, Int.one_mul]; omega
  · rw [Int.pow_succ, Int.pow_succ, Int.pow_succ, Int.pow_zero, Int.one_mul]; omega
theorem qe3 {p x : Int} (hp : p ≤ 31) (hx : 0 ≤ x ∧ x < p) (n : Nat) (hn : n ≤ 3) : Ev (fun k => jb.f k x (n : Int)) (x ^ n) := by
  have h0 : ∀ (d i : Nat), i + d = n → Ev (fun k => jb.l0 k x (x ^ i) (n : Int) (i : Int)) (x ^ n) := by
    intro d
    induction d with
    | zero =>
      intro i hi
      obtain rfl : i = n := by omega
      exact Ev.step (f := fun _ => some (x ^ i)) (fun q => by rw [jb.l0, if_neg (by omega)]) (Ev.now _)
    | succ d ih =>
      intro i hi
      have := qcd hp hx (i + 1) (by omega)
      rw [Int.pow_succ] at this
      refine Ev.step (fun q => by rw [jb.l0, if_pos (by omega), wsm (i := x ^ i * x) (by omega) (by omega), wsm (by omega) (by omega)]) ?_
      have h := ih (i + 1) (by omega)
      rwa [Int.pow_succ] at h
  unfold jb.f
  have := h0 n 0 (by omega)
  rwa [Int.pow_zero] at this
def monI (t : Int × Int × Int) (i : Nat) : Int := t.1 ^ (powN.getD i (0, 0, 0)).1 * t.2.1 ^ (powN.getD i (0, 0, 0)).2.1 * t.2.2 ^ (powN.getD i (0, 0, 0)).2.2
def cubI (t : Int × Int × Int) : List Int := (List.range 10).map (monI t)
theorem qkx {x y z : Int} (hx : 0 ≤ x ∧ x ≤ 27000) (hy : 0 ≤ y ∧ y ≤ 27000) (hz : 0 ≤ z ∧ z ≤ 27000) : (0 ≤ x * y ∧ x * y ≤ 729000000) ∧ 0 ≤ x * y * z ∧ x * y * z ≤ 19683000000000 := by
  have h1 : 0 ≤ x * y ∧ x * y ≤ 27000 * 27000 := ⟨Int.mul_nonneg hx.1 hy.1, Int.mul_le_mul hx.2 hy.2 hy.1 (by omega)⟩
  have h2 : 0 ≤ x * y * z ∧ x * y * z ≤ 729000000 * 27000 := ⟨Int.mul_nonneg h1.1 hz.1, Int.mul_le_mul (by omega) hz.2 hz.1 (by omega)⟩
  omega
theorem qeq {p : Int} (hp : p ≤ 31) (t : Int × Int × Int) (ht : inP p t) : Ev (fun k => zf.f k t.1 t.2.1 t.2.2) (cubI t) := by
  obtain ⟨a0, a1, a2⟩ := ht
  have h0 : ∀ (d i : Nat) (acc : List Int), i + d = 10 → acc = (List.range i).map (monI t) → Ev (fun q => zf.l0 q acc powL (powL.length : Int) (i : Int) t.1 t.2.1 t.2.2) (cubI t) := by
    intro d
    induction d with
    | zero =>
      intro i acc hi ha
      obtain rfl : i = 10 := by omega
      subst ha
      exact Ev.step (f := fun _ => some (cubI t)) (fun q => by rw [zf.l0, if_neg (by simp [powL])]; rfl) (Ev.now _)
    | succ d ih =>
      intro i acc hi ha
      obtain ⟨e0, e1, e2, l0, l1, l2⟩ := qg5 i (by omega)
      have hal : acc.length ≤ 1000 := by rw [ha, List.length_map, List.length_range]; omega
      have hpl : (powL.length : Int) = 10 := rfl
      have b0 := qcd hp a0 _ l0
      have b1 := qcd hp a1 _ l1
      have b2 := qcd hp a2 _ l2
      obtain ⟨c1, c2⟩ := qkx b0 b1 b2
      refine Ev.step (fun q => by rw [zf.l0, if_pos (by omega), if_pos (by omega), if_pos (by omega), e0, e1, e2]) ?_
      refine (Ev.bind (qe3 hp a0 _ l0) (Ev.bind (qe3 hp a1 _ l1) (Ev.bind (qe3 hp a2 _ l2) ?_)))
      refine Ev.yes (show acc.length < 17592186044416 by omega) ?_
      rw [wsm (i := t.1 ^ (powN.getD i (0, 0, 0)).1 * t.2.1 ^ (powN.getD i (0, 0, 0)).2.1) (by omega) (by omega), wsm (i := t.1 ^ (powN.getD i (0, 0, 0)).1 * t.2.1 ^ (powN.getD i (0, 0, 0)).2.1 * t.2.2 ^ (powN.getD i (0, 0, 0)).2.2) (by omega) (by omega), wsm (by omega) (by omega)]
      refine ih (i + 1) _ (by omega) ?_
      rw [ha, List.range_succ, List.map_append]
      rfl
  unfold zf.f
  exact Ev.bind qk6 (h0 10 0 [] rfl rfl)
theorem qhf {p : Int} (hp : p ≤ 31) {t : Int × Int × Int} (ht : inP p t) (i : Nat) (hi : i < 10) : 0 ≤ monI t i ∧ monI t i ≤ 19683000000000 := by
  obtain ⟨a0, a1, a2⟩ := ht
  obtain ⟨_, _, _, l0, l1, l2⟩ := qg5 i hi
  exact (qkx (qcd hp a0 _ l0) (qcd hp a1 _ l1) (qcd hp a2 _ l2)).2
theorem qgu {p x : Int} (hp : 7 ≤ p ∧ p ≤ 31) (h0 : 0 ≤ x) : modV p x = x % p := by
  have h2 := qef (p := p) (by omega) x
  rw [modV, wsm (by omega) (by omega), Int.tmod_eq_emod_of_nonneg (a := x) (by omega)]
  have := Int.emod_nonneg x (show p ≠ 0 by omega)
  have := Int.emod_lt_of_pos x (show (0 : Int) < p by omega)
  rw [Int.tmod_eq_emod_of_nonneg (by omega), Int.add_emod_right, Int.emod_emod]
theorem qiq {p : Int} (hp : 7 ≤ p ∧ p ≤ 31) {t : Int × Int × Int} (ht : inP p t) : (cubI t).map (modV p) = cubR p t := by
  rw [cubI, List.map_map, ← qil]
  refine List.map_congr_left fun i hi => ?_
  exact qgu hp (qhf hp.2 ht i (List.mem_range.1 hi)).1
theorem qdp {p : Int} (hp : zh p = true) (l : List S43) (hl : l.length ≤ 1000) (hin : ∀ j, j < l.length → inP p ((tps l).getD j (0, 0, 0))) : Ev (fun k => zm.f k p l) (basP p (tps l)) := by
  have hb := z5 hp
  have hlen : (tps l).length = l.length := by simp [tps]
  have h0 : ∀ (d i : Nat) (acc : List (List Int)), i + d = l.length → acc = ((tps l).take i).map cubI → Ev (fun q => zm.l0 q p acc l (l.length : Int) (i : Int)) (basP p (tps l)) := by
    intro d
    induction d with
    | zero =>
      intro i acc hi ha
      rw [List.take_of_length_le (by omega)] at ha
      subst ha
      have hs := qao hp (w := 10) (by omega) ((tps l).map cubI) (by rw [List.length_map]; omega) (fun r hr => by obtain ⟨t, _, rfl⟩ := List.mem_map.1 hr; simp [cubI])
      have e : (((tps l).map cubI).map fun r => r.map (modV p)) = (tps l).map (cubR p) := by
        rw [List.map_map]
        refine List.map_congr_left fun t ht => ?_
        obtain ⟨j, hj, rfl⟩ := List.getElem_of_mem ht
        have := hin j (by omega)
        rw [List.getD_eq_getElem?_getD, List.getElem?_eq_getElem hj] at this
        exact qiq ⟨by omega, by omega⟩ this
      rw [e] at hs
      refine Ev.step (fun q => by rw [zm.l0, if_neg (by omega)]) ?_
      exact Ev.bind hs (Ev.now _)
    | succ d ih =>
      intro i acc hi ha
      have hil : i < l.length := by omega
      have hal : acc.length ≤ 1000 := by rw [ha, List.length_map, List.length_take]; omega
      have e := qa2 l i hil
      have hc := qeq (p := p) (by omega) _ (hin i hil)
      rw [← e] at hc
      refine Ev.step (fun q => by rw [zm.l0, if_pos (by omega), if_pos (by omega), if_pos (by omega)]) ?_
      refine Ev.bind hc (Ev.yes (show acc.length < 5864062014805 by omega) ?_)
      rw [wsm (by omega) (by omega)]
      refine ih (i + 1) _ (by omega) ?_
      rw [ha, List.take_add_one, List.map_append, e, List.getD_eq_getElem?_getD, List.getElem?_eq_getElem (by omega)]
      rfl
  unfold zm.f
  exact h0 l.length 0 [] (by omega) (by simp)
end Go.Proofs.Ytmgbpmihbljngaa.PA
namespace Go.Proofs.Ytmgbpmihbljngaa.PA
open Go.RowKit Go.Proofs.YtmgbpmihbljngaaW.PrintWords Go.Proofs.YtmgbpmihbljngaaW.PrintLast Go.Proofs.YtmgbpmihbljngaaW.PrintMore
set_option linter.unusedVariables false
set_option linter.unusedSimpArgs false
def lstF (n w : Nat) (F : Nat → Fq n) : List Int := (List.range w).map fun r => (((F r).val : Nat) : Int)
theorem qht (n w : Nat) (F : Nat → Fq n) : (lstF n w F).length = w := by simp [lstF]
theorem qjf {n w : Nat} (F : Nat → Fq n) (r : Nat) (h : r < w) : fn (lstF n w F) r = (((F r).val : Nat) : Int) := by
  rw [fn, Zu _ r (by rw [qht]; exact h)]
  simp [lstF]
theorem qoa {p : Int} (hp : zh p = true) (w : Nat) (F : Nat → Fq (nn p)) : (lstF (nn p) w F).length = w ∧ ∀ x ∈ lstF (nn p) w F, 0 ≤ x ∧ x < p := by
  refine ⟨qht _ _ _, fun x hx => ?_⟩
  obtain ⟨r, _, rfl⟩ := List.mem_map.1 hx
  have := (F r).isLt
  have := nn_p hp
  omega
theorem qgp {n w : Nat} (F : Nat → Fq n) (r : Nat) (h : r < w) : fi n (fn (lstF n w F) r) = F r := by rw [qjf F r h, qbn]
theorem lst_eq {p : Int} (hp : zh p = true) {w : Nat} {L : List Int} (hL : L.length = w ∧ ∀ x ∈ L, 0 ≤ x ∧ x < p) (F : Nat → Fq (nn p)) (h : ∀ r, r < w → fi (nn p) (fn L r) = F r) : L = lstF (nn p) w F := by
  refine qnu hL.1 (qht _ _ _) fun j hj => ?_
  have hr := Zc hL j hj
  rw [qjf F j hj, ← h j hj, qak, nn_p hp, Int.emod_eq_of_lt hr.1 hr.2]
end Go.Proofs.Ytmgbpmihbljngaa.PA
namespace Go.Proofs.Ytmgbpmihbljngaa.PA
open Go.RowKit Go.Proofs.YtmgbpmihbljngaaW.PrintWords Go.Proofs.YtmgbpmihbljngaaW.PrintLast Go.Proofs.YtmgbpmihbljngaaW.PrintMore
set_option linter.unusedVariables false
set_option linter.unusedSimpArgs false
def basS (p : Int) (Q : List (Int × Int × Int)) (i : Nat) : Nat → Fq (nn p) := sprd (basF p Q i)
def surT (p : Int) (Q : List (Int × Int × Int)) : List (List Int) := (List.range 100).map fun r => lstF (nn p) 20 fun c => proT (basS p Q) c r
def surP (p : Int) (Q : List (Int × Int × Int)) : List Int := (Q1 p 20 (surT p Q)).getD 0 []
theorem qem {p : Int} (hp : zh p = true) (Q : List (Int × Int × Int)) : okR p 20 (surT p Q) := fun r hr => by
  obtain ⟨c, _, rfl⟩ := List.mem_map.1 hr
  exact qoa hp 20 _
theorem Z9 {p : Int} {Q : List (Int × Int × Int)} (h : genB p Q = true) : gen3 (ptL p Q) := by
  obtain ⟨hp, h6, ha, _⟩ := Qk h
  refine qo1 fun i j k hi hj hk => ?_
  have hc := (Zi ha).2 i j k (by omega) hj hk
  intro e
  rw [colB, beq_eq_false_iff_ne] at hc
  refine hc (Int.emod_eq_zero_of_dvd ?_)
  rw [← Jk hp]
  simp only [qay, J3, qn3]
  simp only [ev3, Q3, ptL, p3] at e
  grind
theorem qn7 {p : Int} {Q : List (Int × Int × Int)} (h : genB p Q = true) : Q1 p 20 (surT p Q) ≠ [] := by
  obtain ⟨hp, h6, _, _⟩ := Qk h
  refine rel20 hp h6 (Z9 h) (qem hp Q) fun r hr => ?_
  obtain ⟨e, _, rfl⟩ := List.mem_map.1 hr
  exact ⟨e, fun c hc => qgp _ c hc⟩
theorem qk9 {p : Int} {Q : List (Int × Int × Int)} (h : genB p Q = true) : surP p Q ∈ Q1 p 20 (surT p Q) := by
  have := qn7 h
  exact Qt (List.length_pos_iff.2 this)
theorem qn0 {p : Int} {Q : List (Int × Int × Int)} (h : genB p Q = true) : (surP p Q).length = 20 ∧ ∀ x ∈ surP p Q, 0 ≤ x ∧ x < p := by
  obtain ⟨hp, h6, _, _⟩ := Qk h
  obtain ⟨N, e, hN, _, _⟩ := Qy hp (qem hp Q)
  have hm := qk9 h
  rw [e] at hm
  obtain ⟨z, hz, ez⟩ := List.mem_map.1 hm
  rw [← ez]
  exact hN.ok z hz
theorem qdf {p : Int} {Q : List (Int × Int × Int)} (hp : zh p = true) (i : Nat) (hi : i < (basP p Q).length) : ((basP p Q).getD i []).length = 10 ∧ ∀ x ∈ (basP p Q).getD i [], 0 ≤ x ∧ x < p := by
  obtain ⟨N, e, hN, _, _⟩ := Qy hp (qdu hp Q)
  have hm := Qt hi
  rw [basP, e] at hm
  obtain ⟨z, hz, ez⟩ := List.mem_map.1 hm
  rw [basP, e, ← ez]
  exact hN.ok z hz
end Go.Proofs.Ytmgbpmihbljngaa.PA
namespace Go.Proofs.Ytmgbpmihbljngaa.PA
open Go.RowKit Go.Proofs.YtmgbpmihbljngaaW.PrintWords Go.Proofs.YtmgbpmihbljngaaW.PrintLast Go.Proofs.YtmgbpmihbljngaaW.PrintMore
set_option linter.unusedVariables false
set_option linter.unusedSimpArgs false
theorem qlu {p : Int} (hp : zh p = true) {w : Nat} {L M : List (List Int)} (hL : okR p w L) (hM : okR p w M) (h1 : ∀ r ∈ L, r ∈ M) (h2 : ∀ r ∈ M, r ∈ L ∨ ∀ j, j < w → fn r j = 0) : Q1 p w L = Q1 p w M := by
  have hb := z5 hp
  obtain ⟨N, e1, hN, a1, b1⟩ := Qy hp hL
  obtain ⟨K, e2, hK, a2, b2⟩ := Qy hp hM
  have hz : ∀ (r : List Int) (v : Nat → Int), (∀ j, j < w → fn r j = 0) → p ∣ dt w (fn r) v := fun r v hr => by
    refine qel _ fun x hx => ?_
    obtain ⟨j, hj, rfl⟩ := List.mem_map.1 hx
    rw [hr j (List.mem_range.1 hj), Int.zero_mul]
    exact ⟨0, by simp⟩
  rw [e1, e2, Rref.unique (by omega) hN hK (fun x hx => b2 _ fun r hr => ?_) (fun x hx => b1 _ fun r hr => a2 x hx r (h1 r hr))]
  rcases h2 r hr with h | h
  · exact a1 x hx r h
  · exact hz r _ h
end Go.Proofs.Ytmgbpmihbljngaa.PA
namespace Go.Proofs.Ytmgbpmihbljngaa.PA
open Go.RowKit Go.Proofs.YtmgbpmihbljngaaW.PrintWords Go.Proofs.YtmgbpmihbljngaaW.PrintLast Go.Proofs.YtmgbpmihbljngaaW.PrintMore
set_option linter.unusedVariables false
set_option linter.unusedSimpArgs false
theorem qmv (n : Nat) (f : Nat → Int) : ∀ m, fi n (hz m f) = sm m fun i => fi n (f i)
  | 0 => qdg n
  | m + 1 => by rw [hz, sm, qay, qmv n f m]
theorem qgo {n : Nat} (h : Nat → Fq n) (b : Nat) : ∀ m, sm (b * m) h = sm m fun a => sm b fun c => h (b * a + c)
  | 0 => rfl
  | m + 1 => by rw [Nat.mul_succ, Jr, qgo h b m, sm]
def lkP (p : Int) (d : Nat) (F : Nat → Nat → Int) (f : Nat → Fq (nn p)) : Prop := (∀ i j, i + j ≤ 9 → fi (nn p) (F i j) = f (10 * i + j)) ∧ ∀ r, d < r / 10 + r % 10 → f r = 0
theorem qmx {p : Int} (hp : zh p = true) {d1 d2 : Nat} {F G : Nat → Nat → Int} {f g : Nat → Fq (nn p)} (hF : lkP p d1 F f) (hG : lkP p d2 G g) (hd : d1 + d2 ≤ 9) : lkP p (d1 + d2) (mulI p F G) (mulP f g) := by
  constructor
  · intro i j hij
    rw [mulI, qbg hp, qmv, mulP]
    have e1 : sm (10 * i + j + 1) (fun k => f k * g (10 * i + j - k)) = sm (10 * (i + 1)) fun k => if k ≤ 10 * i + j then f k * g (10 * i + j - k) else 0 := by
      have e0 := Jr (fun k => if k ≤ 10 * i + j then f k * g (10 * i + j - k) else 0) (10 * i + j + 1) (9 - j)
      rw [show 10 * i + j + 1 + (9 - j) = 10 * (i + 1) by omega] at e0
      rw [e0, Jc (f := fun k => if 10 * i + j + 1 + k ≤ 10 * i + j then f (10 * i + j + 1 + k) * g (10 * i + j - (10 * i + j + 1 + k)) else 0) _ fun k _ => if_neg (by omega)]
      rw [j5 (f := fun k => if k ≤ 10 * i + j then f k * g (10 * i + j - k) else 0) (g := fun k => f k * g (10 * i + j - k)) _ fun k hk => if_pos (by omega)]
      grind
    rw [e1, qgo]
    refine j5 _ fun a ha => ?_
    have e0 := Jr (fun c => if 10 * a + c ≤ 10 * i + j then f (10 * a + c) * g (10 * i + j - (10 * a + c)) else 0) (j + 1) (9 - j)
    rw [show j + 1 + (9 - j) = 10 by omega] at e0
    rw [qmv, e0]
    have e2 : (sm (9 - j) fun c => if 10 * a + (j + 1 + c) ≤ 10 * i + j then f (10 * a + (j + 1 + c)) * g (10 * i + j - (10 * a + (j + 1 + c))) else 0) = 0 := Jc _ fun c hc => by
      split
      · next hle =>
        by_cases h1 : d1 < (10 * a + (j + 1 + c)) / 10 + (10 * a + (j + 1 + c)) % 10
        · rw [hF.2 _ h1]; grind
        · rw [hG.2 (10 * i + j - (10 * a + (j + 1 + c))) (by omega)]; grind
      · rfl
    rw [e2]
    have e3 : (sm (j + 1) fun c => fi (nn p) (F a c * G (i - a) (j - c))) = sm (j + 1) fun c => if 10 * a + c ≤ 10 * i + j then f (10 * a + c) * g (10 * i + j - (10 * a + c)) else 0 := j5 _ fun c hc => by
      rw [if_pos (by omega), J3, hF.1 a c (by omega), hG.1 (i - a) (j - c) (by omega), show 10 * i + j - (10 * a + c) = 10 * (i - a) + (j - c) by omega]
    rw [e3]
    grind
  · intro r hr
    refine Jc _ fun k hk => ?_
    by_cases h1 : d1 < k / 10 + k % 10
    · rw [hF.2 k h1]; grind
    · rw [hG.2 (r - k) (by omega)]; grind
theorem qif {n : Nat} (v : Nat → Fq n) (r : Nat) (h : 3 < r / 10 + r % 10) : sprd v r = 0 := by
  unfold sprd
  split <;> first | rfl | omega
theorem qoq {n : Nat} (v : Nat → Fq n) : ∀ i j, i + j ≤ 3 → sprd v (10 * i + j) = v (qa9 i j) := by
  intro i j h
  rcases (show i = 0 ∨ i = 1 ∨ i = 2 ∨ i = 3 by omega) with rfl | rfl | rfl | rfl <;> rcases (show j = 0 ∨ j = 1 ∨ j = 2 ∨ j = 3 by omega) with rfl | rfl | rfl | rfl <;> first | omega | rfl
theorem qmu (i j : Nat) (h : i + j ≤ 3) : qa9 i j < 10 := by
  rcases (show i = 0 ∨ i = 1 ∨ i = 2 ∨ i = 3 by omega) with rfl | rfl | rfl | rfl <;> rcases (show j = 0 ∨ j = 1 ∨ j = 2 ∨ j = 3 by omega) with rfl | rfl | rfl | rfl <;> first | omega | (simp [qa9])
theorem qju (p : Int) (a : List Int) : lkP p 3 (cubN a 10) (sprd fun j => fi (nn p) (fn a j)) := by
  constructor
  · intro i j _
    unfold cubN
    by_cases h : i + j ≤ 3
    · rw [if_pos ⟨h, qmu i j h⟩, qoq _ i j h]; rfl
    · rw [if_neg (by omega), qdg, qif _ _ (by omega)]
  · exact fun r hr => qif _ r hr
theorem qlg {p : Int} (hp : zh p = true) (Q : List (Int × Int × Int)) (c : Nat) : lkP p 9 (qba p (basP p Q) c) (proT (basS p Q) c) :=
  qmx hp (qmx hp (qju p _) (qju p _) (by omega)) (qju p _) (by omega)
theorem qfv {p : Int} (hp : zh p = true) (Q : List (Int × Int × Int)) (i j : Nat) (hij : i + j ≤ 9) : rowB p (basP p Q) i j = lstF (nn p) 20 fun c => proT (basS p Q) c (10 * i + j) := by
  have hb := z5 hp
  refine lst_eq hp ⟨qfh _ _ _ _, fun x hx => ?_⟩ _ fun r hr => ?_
  · obtain ⟨c, _, rfl⟩ := List.mem_map.1 hx
    exact ⟨Int.emod_nonneg _ (by omega), Int.emod_lt_of_pos _ (by omega)⟩
  · rw [← (qlg hp Q r).1 i j hij]
    congr 1
    simp [fn, rd, rowB, List.getD_eq_getElem?_getD, hr]
theorem qb4 (p : Int) (l : List (List Int)) (r : List Int) : ∀ x, x ≤ 10 → (r ∈ Jo p l x ↔ ∃ i j, i < x ∧ j < 10 - i ∧ r = rowB p l i j)
  | 0, _ => by simp [Jo]
  | x + 1, hx => by
    rw [Jo, List.mem_append, qb4 p l r x (by omega), List.mem_map]
    constructor
    · rintro (⟨i, j, h1, h2, h3⟩ | ⟨j, hj, rfl⟩)
      · exact ⟨i, j, by omega, h2, h3⟩
      · exact ⟨x, j, by omega, List.mem_range.1 hj, rfl⟩
    · rintro ⟨i, j, h1, h2, rfl⟩
      by_cases e : i = x
      · subst e; exact .inr ⟨j, List.mem_range.2 h2, rfl⟩
      · exact .inl ⟨i, j, by omega, h2, rfl⟩
theorem qh5 {p : Int} (hp : zh p = true) (Q : List (Int × Int × Int)) : okR p 20 (Jo p (basP p Q) 10) := fun r hr => by
  obtain ⟨i, j, h1, h2, rfl⟩ := (qb4 p _ r 10 (by omega)).1 hr
  rw [qfv hp Q i j (by omega)]
  exact qoa hp 20 _
theorem qj3 {p : Int} (hp : zh p = true) (Q : List (Int × Int × Int)) : Q1 p 20 (Jo p (basP p Q) 10) = Q1 p 20 (surT p Q) := by
  refine qlu hp (qh5 hp Q) (qem hp Q) (fun r hr => ?_) fun r hr => ?_
  · obtain ⟨i, j, h1, h2, rfl⟩ := (qb4 p _ r 10 (by omega)).1 hr
    rw [qfv hp Q i j (by omega)]
    exact List.mem_map.2 ⟨10 * i + j, List.mem_range.2 (by omega), rfl⟩
  · obtain ⟨q, hq, rfl⟩ := List.mem_map.1 hr
    have hq := List.mem_range.1 hq
    by_cases h : q / 10 + q % 10 ≤ 9
    · refine .inl ((qb4 p _ _ 10 (by omega)).2 ⟨q / 10, q % 10, by omega, by omega, ?_⟩)
      rw [qfv hp Q _ _ h, show 10 * (q / 10) + q % 10 = q by omega]
    · refine .inr fun j hj => ?_
      rw [qjf _ j hj, (qlg hp Q j).2 q (by omega)]
      rfl
end Go.Proofs.Ytmgbpmihbljngaa.PA
namespace Go.Proofs.Ytmgbpmihbljngaa.PA
open Go.RowKit Go.Proofs.YtmgbpmihbljngaaW.PrintWords Go.Proofs.YtmgbpmihbljngaaW.PrintLast Go.Proofs.YtmgbpmihbljngaaW.PrintMore
set_option linter.unusedVariables false
set_option linter.unusedSimpArgs false
theorem trs_ev : Ev (fun k => za.f k) trL := Ev.of za.mono (k := 60) (by kernel_rfl)
theorem qg1 {p : Int} {Q : List (Int × Int × Int)} (hg : genB p Q = true) : Ev (fun k => q7.f k p (basP p Q)) (surP p Q) := by
  obtain ⟨hp, h6, ha, _⟩ := Qk hg
  have hb := z5 hp
  have hl := Jx hp h6 (Z9 hg)
  have hok : q7.ok p (basP p Q) = true := by
    unfold q7.ok
    rw [Bool.and_eq_true, decide_eq_true_iff, List.all_eq_true]
    refine ⟨⟨by omega, by omega, hl⟩, fun a ha => ?_⟩
    obtain ⟨i, hi, rfl⟩ := qab ha
    have := qdf (Q := Q) hp i hi
    rw [Bool.and_eq_true, decide_eq_true_iff, List.all_eq_true]
    exact ⟨this.1, fun x hx => decide_eq_true (this.2 x hx)⟩
  unfold q7.f
  refine Ev.bind qk6 (Ev.bind trs_ev (Ev.yes ⟨hok, rfl, rfl⟩ ?_))
  have hs := qhm hp (w := 20) (by omega) (Jo p (basP p Q) 10) (by have := qdq p (basP p Q) 10; omega) (qh5 hp Q)
  rw [qj3 hp Q] at hs
  have hne := qn7 hg
  refine Ev.bind hs (Ev.k ?_)
  rw [surP]
  cases h : Q1 p 20 (surT p Q) with
  | nil => exact absurd h hne
  | cons a b => rfl
end Go.Proofs.Ytmgbpmihbljngaa.PA
namespace Go.Proofs.Ytmgbpmihbljngaa.PA
open Go.RowKit Go.Proofs.YtmgbpmihbljngaaW.PrintWords Go.Proofs.YtmgbpmihbljngaaW.PrintLast Go.Proofs.YtmgbpmihbljngaaW.PrintMore
set_option linter.unusedVariables false
set_option linter.unusedSimpArgs false
def xs2 (f a : List Int) (two : Int) : Nat → Int → Int → Int → Int
  | 0, s, _, _ => s
  | d + 1, s, n, l => xs2 f a two d (s + rd f n * two * rd a l) (n + 1) (l + 1)
def xs1 (f a : List Int) (i : Int) : Nat → Int → Int → Int → Int
  | 0, s, _, _ => s
  | d + 1, s, n, j => xs1 f a i d (xs2 f a (rd a i * rd a j) (d + 1) s n j) (n + (d + 1 : Nat)) (j + 1)
def xs0 (f a : List Int) : Nat → Int → Int → Int → Int
  | 0, s, _, _ => s
  | d + 1, s, n, i => xs0 f a d (xs1 f a i (d + 1) s n i) (n + tri (d + 1)) (i + 1)
def xval (f a : List Int) : Int := xs0 f a 4 0 0 0
def qbt (l : List Int) : Prop := ∀ i, 0 ≤ rd l i ∧ rd l i ≤ 30
theorem qi3 {p : Int} {l : List Int} {n : Nat} (h : Jp p l n = true) : qbt l := by
  intro i
  obtain ⟨hp, hl, hr⟩ := Z4 h
  have hb := z5 hp
  unfold rd
  rw [List.getD_eq_getElem?_getD]
  cases hi : l[i.toNat]? with
  | none => simp
  | some x => have := hr x (List.mem_of_getElem? hi); simp; omega
theorem qdm {x y a b : Int} (h0 : 0 ≤ x) (h1 : x ≤ a) (h2 : 0 ≤ y) (h3 : y ≤ b) : 0 ≤ x * y ∧ x * y ≤ a * b :=
  ⟨Int.mul_nonneg h0 h2, Int.le_trans (Int.mul_le_mul_of_nonneg_right h1 h2) (Int.mul_le_mul_of_nonneg_left h3 (Int.le_trans h0 h1))⟩
theorem vs2_eq (f a : List Int) (hf : qbt f) (ha : qbt a) (two : Int) (ht : 0 ≤ two ∧ two ≤ 900) (d : Nat) : ∀ (s n l : Int), 0 ≤ s → s + d * 1000000 ≤ 100000000 →
    vs2 f a two d s n l = xs2 f a two d s n l ∧ 0 ≤ xs2 f a two d s n l ∧ xs2 f a two d s n l ≤ s + d * 1000000 := by
  induction d with
  | zero => intro s n l h0 h1; exact ⟨rfl, h0, by rw [xs2]; omega⟩
  | succ d ih =>
    intro s n l h0 h1
    have m1 := qdm (hf n).1 (hf n).2 ht.1 ht.2
    have m2 := qdm m1.1 m1.2 (ha l).1 (ha l).2
    rw [vs2, xs2, wsm (i := rd f n * two) (by omega) (by omega), wsm (i := rd f n * two * rd a l) (by omega) (by omega), wsm (by omega) (by omega)]
    have ih := ih (s + rd f n * two * rd a l) (n + 1) (l + 1) (by omega) (by omega)
    refine ⟨ih.1, ih.2.1, ?_⟩
    have := ih.2.2
    omega
theorem qhn (f a : List Int) (hf : qbt f) (ha : qbt a) (i : Int) (d : Nat) : ∀ (s n j : Int), 0 ≤ s → s + (tri d) * 1000000 ≤ 100000000 →
    (vs1 f a i d s n j).1 = xs1 f a i d s n j ∧ 0 ≤ xs1 f a i d s n j ∧ xs1 f a i d s n j ≤ s + (tri d) * 1000000 := by
  induction d with
  | zero => intro s n j h0 h1; exact ⟨rfl, h0, by rw [xs1]; omega⟩
  | succ d ih =>
    intro s n j h0 h1
    have m1 := qdm (ha i).1 (ha i).2 (ha j).1 (ha j).2
    rw [tri] at h1
    rw [vs1, xs1, wsm (i := rd a i * rd a j) (by omega) (by omega)]
    have h2 := vs2_eq f a hf ha (rd a i * rd a j) (by omega) (d + 1) s n j h0 (by omega)
    rw [h2.1]
    have ih := ih (xs2 f a (rd a i * rd a j) (d + 1) s n j) (n + (d + 1 : Nat)) (j + 1) h2.2.1 (by omega)
    refine ⟨ih.1, ih.2.1, ?_⟩
    have h3 := ih.2.2
    have h4 := h2.2.2
    rw [tri]
    omega
theorem qn6 (f a : List Int) (hf : qbt f) (ha : qbt a) : vs0 f a 4 0 0 0 = xval f a ∧ 0 ≤ xval f a ∧ xval f a ≤ 100000000 := by
  have h4 := qhn f a hf ha 0 4 0 0 0 (by omega) (by simp [tri])
  have h3 := qhn f a hf ha 1 3 _ (0 + tri 4) 1 h4.2.1 (by have := h4.2.2; simp [tri] at this ⊢; omega)
  have h2 := qhn f a hf ha 2 2 _ (0 + tri 4 + tri 3) 2 h3.2.1 (by have := h4.2.2; have := h3.2.2; simp [tri] at *; omega)
  have h1 := qhn f a hf ha 3 1 _ (0 + tri 4 + tri 3 + tri 2) 3 h2.2.1 (by have := h4.2.2; have := h3.2.2; have := h2.2.2; simp [tri] at *; omega)
  unfold xval
  simp only [vs0, xs0, qd0]
  simp only [Int.zero_add, show (1 : Int) + 1 = 2 from rfl, show (2 : Int) + 1 = 3 from rfl] at *
  rw [h4.1, h3.1, h2.1, h1.1]
  refine ⟨rfl, h1.2.1, ?_⟩
  have a1 := h1.2.2
  have a2 := h2.2.2
  have a3 := h3.2.2
  have a4 := h4.2.2
  simp [tri] at *
  omega
theorem qou {p : Int} {f a : List Int} (hf : qbt f) (ha : qbt a) : valI p f a = xval f a % p := by
  unfold valI
  rw [(qn6 f a hf ha).1, Int.tmod_eq_emod_of_nonneg (qn6 f a hf ha).2.1]
theorem qmc (p : Int) (f a : List Int) (hp : 7 ≤ p ∧ p ≤ 31) (hf : f.length = 20) (ha : a.length = 4) (sf : qbt f) (sa : qbt a) : Ev (fun k => qq.f k p f a) (xval f a % p) := by
  have h := qjl p f a (by omega) hf ha
  rwa [qou sf sa] at h
end Go.Proofs.Ytmgbpmihbljngaa.PA
namespace Go.Proofs.Ytmgbpmihbljngaa.PA
open Go.RowKit Go.Proofs.YtmgbpmihbljngaaW.PrintWords Go.Proofs.YtmgbpmihbljngaaW.PrintLast Go.Proofs.YtmgbpmihbljngaaW.PrintMore
set_option linter.unusedVariables false
set_option linter.unusedSimpArgs false
theorem qm1 {p : Int} {Q : List (Int × Int × Int)} (h : genB p Q = true) : Jp p (surP p Q) 20 = true := qdd (Qk h).1 (qn0 h).1 (qn0 h).2
def hasP (p : Int) (Q : List (Int × Int × Int)) (a : List Int) : Bool := genB p Q && (qcs p a && (xval (surP p Q) a % p == 0))
end Go.Proofs.Ytmgbpmihbljngaa.PA
namespace Go.Proofs.Ytmgbpmihbljngaa.PA
open Go.RowKit Go.Proofs.YtmgbpmihbljngaaW.PrintWords Go.Proofs.YtmgbpmihbljngaaW.PrintLast Go.Proofs.YtmgbpmihbljngaaW.PrintMore
set_option linter.unusedVariables false
set_option linter.unusedSimpArgs false
theorem qfo (p : Int) (a : List Int) : Qq.f p a = some (qcs p a) := by
  unfold Qq.f qcs
  rw [show (4 : Int) = ((4 : Nat) : Int) from rfl, qan]
  cases Jp p a 4 <;> rfl
end Go.Proofs.Ytmgbpmihbljngaa.PA
namespace Go.Proofs.Ytmgbpmihbljngaa.PA
open Go.RowKit Go.Proofs.YtmgbpmihbljngaaW.PrintWords Go.Proofs.YtmgbpmihbljngaaW.PrintLast Go.Proofs.YtmgbpmihbljngaaW.PrintMore
set_option linter.unusedVariables false
set_option linter.unusedSimpArgs false
theorem qez (p : Int) (l : List S43) (a : List Int) : Ev (fun k => jg.f k p l a) (hasP p (tps l) a) := by
  have hlen : (tps l).length = l.length := by simp [tps]
  unfold jg.f hasP
  refine Ev.bind (qah p l) ?_
  cases hg : genB p (tps l) with
  | false => exact Ev.no (by simp) (Ev.now _)
  | true =>
    obtain ⟨hp, h6, ha, _⟩ := Qk hg
    have hb := z5 hp
    refine Ev.yes rfl (Ev.bind (Ev.k (qfo p a)) ?_)
    cases hpl : qcs p a with
    | false => exact Ev.no (by simp) (Ev.now _)
    | true =>
      rw [qcs, Bool.and_eq_true] at hpl
      have hn := qm1 hg
      have hv := qmc p (surP p (tps l)) a ⟨by omega, by omega⟩ (Z4 hn).2.1 (Z4 hpl.1).2.1 (qi3 hn) (qi3 hpl.1)
      refine Ev.yes rfl (Ev.bind (qdp hp l (by omega) fun j hj => Ja ((Zi ha).1 j (by omega))) (Ev.bind (qg1 hg) (Ev.bind hv ?_)))
      exact Ev.now _
end Go.Proofs.Ytmgbpmihbljngaa.PA
namespace Go.Proofs.Ytmgbpmihbljngaa.PA
open Go.RowKit Go.Proofs.YtmgbpmihbljngaaW.PrintWords Go.Proofs.YtmgbpmihbljngaaW.PrintLast Go.Proofs.YtmgbpmihbljngaaW.PrintMore
set_option linter.unusedVariables false
set_option linter.unusedSimpArgs false
theorem qix (p : Int) : ∀ (d c : Nat) (O : List (List Int)), redP p d c [] O = O
  | 0, _, _ => rfl
  | d + 1, c, O => by rw [redP]; exact qix p d (c + 1) O
def monP (p : Int) (r : List Int) : List Int := if (r.all fun x => x == 0) = true then [] else rowP p r
theorem qku {p : Int} {w : Nat} {r : List Int} (hw : r.length = w) : ∀ (d c : Nat), c + d = w → (∀ j : Nat, j < c → rd r (j : Int) = 0) → redP p d c [r] [] = if (r.all fun x => x == 0) = true then [] else [rowP p r]
  | 0, c, e, hz => by
    have h0 : (r.all fun x => x == 0) = true := List.all_eq_true.2 fun x hx => by
      obtain ⟨j, hj, rfl⟩ := List.mem_iff_getElem.1 hx
      rw [← Zu r j hj, hz j (by omega)]; rfl
    rw [if_pos h0, redP]
  | d + 1, c, e, hz => by
    by_cases hc : rd r (c : Int) = 0
    · have ih := qku hw (p := p) d (c + 1) (by omega) (fun j hj => by
        rcases Nat.lt_succ_iff_lt_or_eq.1 hj with h | h
        · exact hz j h
        · rw [h]; exact hc)
      rw [redP]
      simp only [List.findIdx?_cons, hc]
      exact ih
    · have h1 : ¬ (r.all fun x => x == 0) = true := fun h => by
        have := List.all_eq_true.1 h (r[c]'(by omega)) (List.getElem_mem _)
        rw [← Zu r c (by omega)] at this
        exact hc (by simpa using this)
      have hb : (rd r (c : Int) != 0) = true := by simpa using hc
      rw [if_neg h1, redP]
      simp only [List.findIdx?_cons, hb]
      simp only [if_true, List.eraseIdx_cons_zero, List.map_nil, List.getD_cons_zero, List.nil_append, qix]
      rw [qho (by omega) hz hc]
end Go.Proofs.Ytmgbpmihbljngaa.PA
namespace Go.Proofs.Ytmgbpmihbljngaa.PA
open Go.RowKit Go.Proofs.YtmgbpmihbljngaaW.PrintWords Go.Proofs.YtmgbpmihbljngaaW.PrintLast Go.Proofs.YtmgbpmihbljngaaW.PrintMore
set_option linter.unusedVariables false
set_option linter.unusedSimpArgs false
theorem qm6 {p : Int} (hp : zh p = true) (l : List Int) (hl : l.length < 1000) (hb : ∀ x ∈ l, -1000000 ≤ x ∧ x ≤ 1000000) : Ev (fun k => Qp.f k p l) (monP p (l.map fun x => x % p)) := by
  have hpb := z5 hp
  have e : l.map (modV p) = l.map fun x => x % p := List.map_congr_left fun x hx => by
    have := hb x hx
    have h2 := J4 (p := p) (x := x) ⟨by omega, by omega⟩ (by omega) (by omega)
    rwa [wsm (by omega) (by omega)] at h2
  unfold Qp.f
  refine Ev.bind (qck hp (w := l.length) [l] (by omega) (by simp) (by simp)) ?_
  rw [List.map_cons, List.map_nil, e, qku (p := p) (w := l.length) (by simp) l.length 0 (by omega) (fun j hj => absurd hj (by omega)), monP]
  by_cases hz : ((l.map fun x => x % p).all fun x => x == 0) = true
  · rw [if_pos hz, if_pos hz]; exact Ev.now _
  · rw [if_neg hz, if_neg hz]; exact Ev.now _
end Go.Proofs.Ytmgbpmihbljngaa.PA
namespace Go.Proofs.Ytmgbpmihbljngaa.PA
open Go.RowKit Go.Proofs.YtmgbpmihbljngaaW.PrintWords Go.Proofs.YtmgbpmihbljngaaW.PrintLast Go.Proofs.YtmgbpmihbljngaaW.PrintMore
set_option linter.unusedVariables false
set_option linter.unusedSimpArgs false
def dotP (p : Int) (a b : List Int) : Int := dt 10 (fn a) (fn b) % p
theorem qa3 (w : Nat) (u v : Nat → Int) : dt (w + 1) u v = dt w u v + u w * v w := by simp [dt, List.range_succ]
theorem qfr (u v : Nat → Int) : dt 0 u v = 0 := rfl
theorem qn9 {p : Int} (hp : zh p = true) (a b : List Int) (ha : a.length = 10 ∧ ∀ x ∈ a, 0 ≤ x ∧ x < p) (hb : b.length = 10 ∧ ∀ x ∈ b, 0 ≤ x ∧ x < p) : Ev (fun k => jj.f k p a b) (dotP p a b) := by
  have h0 := z5 hp
  have la := ha.1
  have lb := hb.1
  have hl : ∀ (d i : Nat), i + d = 10 → Ev (fun k => jj.l0 k p a b (dt i (fn a) (fn b) % p) (i : Int)) (dotP p a b) := by
    intro d
    induction d with
    | zero =>
      intro i hi
      obtain rfl : i = 10 := by omega
      exact Ev.step (f := fun _ => some (dotP p a b)) (fun q => by rw [jj.l0, if_neg (by omega)]; rfl) (Ev.now _)
    | succ d ih =>
      intro i hi
      have b1 := Zc ha i (by omega)
      have b2 := Zc hb i (by omega)
      have b3 := j7 (p := p) ⟨by omega, by omega⟩ b1 b2
      have b4 := Int.emod_nonneg (dt i (fn a) (fn b)) (show p ≠ 0 by omega)
      have b5 := Int.emod_lt_of_pos (dt i (fn a) (fn b)) (show (0 : Int) < p by omega)
      have r1 : rd a (i : Int) = fn a i := rfl
      have r2 : rd b (i : Int) = fn b i := rfl
      refine Ev.step (fun q => by rw [jj.l0, if_pos (by omega), if_pos (by omega), if_pos (by omega), if_neg (by omega), r1, r2, wsm (i := fn a i * fn b i) (by omega) (by omega), wsm (i := _ + _) (by omega) (by omega), Int.tmod_eq_emod_of_nonneg (by omega), Int.emod_add_emod, ← qa3, wsm (by omega) (by omega)]) ?_
      exact ih (i + 1) (by omega)
  unfold jj.f
  have := hl 10 0 rfl
  rwa [qfr, Int.zero_emod] at this
end Go.Proofs.Ytmgbpmihbljngaa.PA
namespace Go.Proofs.Ytmgbpmihbljngaa.PA
open Go.RowKit Go.Proofs.YtmgbpmihbljngaaW.PrintWords Go.Proofs.YtmgbpmihbljngaaW.PrintLast Go.Proofs.YtmgbpmihbljngaaW.PrintMore
set_option linter.unusedVariables false
set_option linter.unusedSimpArgs false
theorem qml {p : Int} (hp : zh p = true) (l : List S43) (hl : l.length = 6) (hin : ∀ j, j < l.length → inP p ((tps l).getD j (0, 0, 0))) : Ev (fun k => ja.f k p l) (basP p (tps l)) := by
  have hb := z5 hp
  have hlen : (tps l).length = l.length := by simp [tps]
  have h0 : ∀ (d i : Nat) (acc : List (List Int)), i + d = 6 → acc = ((tps l).take i).map (cubR p) → Ev (fun q => ja.l0 q p l acc (i : Int)) (basP p (tps l)) := by
    intro d
    induction d with
    | zero =>
      intro i acc hi ha
      refine Ev.step (fun q => by rw [ja.l0, if_neg (by omega)]) ?_
      rw [List.take_of_length_le (by omega)] at ha
      subst ha
      have := qgi hp (w := 10) (by omega) _ (by rw [List.length_map]; omega) (qdu hp (tps l))
      exact Ev.bind this (Ev.now _)
    | succ d ih =>
      intro i acc hi ha
      have hil : i < l.length := by omega
      have hal : acc.length ≤ 1000 := by rw [ha, List.length_map, List.length_take]; omega
      have e : Ev (fun k => qr.f k p (qd l (i : Int)).f0.f0 (qd l (i : Int)).f0.f1 (qd l (i : Int)).f0.f2) (cubR p (tpl (qd l (i : Int)))) := qcc (p := p) ⟨by omega, by omega⟩ (tpl (qd l (i : Int))) (by rw [qa2 l i hil]; exact hin i hil)
      refine Ev.step (fun q => by rw [ja.l0, if_pos (by omega), if_pos (by omega), if_pos (by omega)]) (Ev.bind e ?_)
      refine Ev.yes (show acc.length < 5864062014805 by omega) ?_
      rw [wsm (by omega) (by omega)]
      refine ih (i + 1) _ (by omega) ?_
      rw [ha, List.take_add_one, List.map_append, List.getElem?_eq_getElem (by omega), qa2 l i hil, List.getD_eq_getElem?_getD, List.getElem?_eq_getElem (by omega)]
      rfl
  unfold ja.f
  exact h0 6 0 [] (by omega) (by simp)
end Go.Proofs.Ytmgbpmihbljngaa.PA
namespace Go.Proofs.Ytmgbpmihbljngaa.PA
open Go.RowKit Go.Proofs.YtmgbpmihbljngaaW.PrintWords Go.Proofs.YtmgbpmihbljngaaW.PrintLast Go.Proofs.YtmgbpmihbljngaaW.PrintMore
set_option linter.unusedVariables false
set_option linter.unusedSimpArgs false
def imgP (p : Int) (Q : List (Int × Int × Int)) (t : Int × Int × Int) : List Int := (basP p Q).map fun r => dotP p r (cubR p t)
def Zr (p : Int) (Q : List (Int × Int × Int)) (t : Int × Int × Int) : List Int × Bool := if (genB p Q = true ∧ ptB p t.1 t.2.1 t.2.2 = true) ∧ (imgP p Q t).all (fun x => x == 0) = false then (rowP p (imgP p Q t), true) else ([], false)
theorem qbz {p : Int} (hp : zh p = true) (Q : List (Int × Int × Int)) (t : Int × Int × Int) : ∀ x ∈ imgP p Q t, 0 ≤ x ∧ x < p := fun x hx => by
  have hb := z5 hp
  obtain ⟨r, _, rfl⟩ := List.mem_map.1 hx
  exact ⟨Int.emod_nonneg _ (by omega), Int.emod_lt_of_pos _ (by omega)⟩
theorem qjh {p : Int} {Q : List (Int × Int × Int)} (hg : genB p Q = true) (t : Int × Int × Int) (ht : inP p t) : Ev (fun k => zv.f k p (basP p Q) t.1 t.2.1 t.2.2) (imgP p Q t) := by
  obtain ⟨hp, h6, _, _⟩ := Qk hg
  have hb := z5 hp
  have hl := Jx hp h6 (Z9 hg)
  have hrow := fun i hi => qdf (Q := Q) hp i hi
  have hend : imgP p Q t = ((basP p Q).map fun r => dotP p r (cubR p t)) := rfl
  generalize imgP p Q t = M at *
  generalize basP p Q = B at *
  have h0 : ∀ (d i : Nat) (acc : List Int), i + d = 4 → acc = (B.take i).map (fun r => dotP p r (cubR p t)) → Ev (fun k => zv.l0 k p B acc (cubR p t) (i : Int)) M := by
    intro d
    induction d with
    | zero =>
      intro i acc hi ha
      rw [List.take_of_length_le (by omega), ← hend] at ha
      subst ha
      exact Ev.step (f := fun _ => some acc) (fun q => by rw [zv.l0, if_neg (by omega)]) (Ev.now _)
    | succ d ih =>
      intro i acc hi ha
      have hal : acc.length ≤ 1000 := by rw [ha, List.length_map, List.length_take]; omega
      have hd := qn9 hp (B.getD i []) (cubR p t) (hrow i (by omega)) (qky hp t)
      refine Ev.step (fun q => by rw [zv.l0, if_pos (by omega), if_pos (by omega), qbk]) ?_
      refine Ev.bind hd (Ev.yes (show acc.length < 17592186044416 by omega) ?_)
      rw [wsm (by omega) (by omega)]
      refine ih (i + 1) _ (by omega) ?_
      rw [ha, List.take_add_one, List.map_append, List.getD_eq_getElem?_getD, List.getElem?_eq_getElem (by omega)]
      rfl
  unfold zv.f
  exact Ev.bind (qcc (p := p) ⟨by omega, by omega⟩ t ht) (h0 4 0 [] rfl rfl)
theorem qe7 (p : Int) (l : List S43) (t : Int × Int × Int) : Ev (fun k => qy.f k p l t.1 t.2.1 t.2.2) (Zr p (tps l) t) := by
  have hlen : (tps l).length = l.length := by simp [tps]
  have hno : ∀ r, r = Zr p (tps l) t → r = ([], false) → Ev (fun k => qy.j0 k p l true t.1 t.2.1 t.2.2) r := fun r _ h => by
    subst h
    exact Ev.step (f := fun _ => some ([], false)) (fun q => by rw [qy.j0, if_pos rfl]) (Ev.now _)
  unfold qy.f
  refine Ev.bind (Js p l) ?_
  cases hg : genB p (tps l) with
  | false =>
    refine Ev.no (by simp) (hno _ rfl ?_)
    rw [Zr, if_neg (by simp [hg])]
  | true =>
    obtain ⟨hp, h6, ha, _⟩ := Qk hg
    refine Ev.yes rfl (Ev.bind (qcn p t.1 t.2.1 t.2.2) ?_)
    cases hpt : ptB p t.1 t.2.1 t.2.2 with
    | false =>
      refine hno _ rfl ?_
      rw [Zr, if_neg (by simp [hpt])]
    | true =>
      have ht : inP p t := Ja hpt
      have hl : (imgP p (tps l) t).length = 4 := by rw [imgP, List.length_map, Jx hp h6 (Z9 hg)]
      have hi := qjh hg t ht
      have hb := qml hp l (by omega) fun j hj => Ja ((Zi ha).1 j (by omega))
      have hr := qc1 hp (imgP p (tps l) t) (qbz hp _ t) (by omega)
      have hz := qbu (imgP p (tps l) t) (by omega)
      rw [Zr]
      generalize imgP p (tps l) t = M at *
      refine Ev.step (fun q => by rw [qy.j0, if_neg (by simp)]) ?_
      refine Ev.bind hb (Ev.bind hi (Ev.bind hz ?_))
      cases hm : M.all (fun x => x == 0) with
      | true =>
        rw [if_neg (by simp)]
        exact Ev.yes rfl (Ev.now _)
      | false =>
        rw [if_pos ⟨⟨hg, hpt⟩, rfl⟩]
        exact Ev.no (by simp) (Ev.bind hr (Ev.now _))
end Go.Proofs.Ytmgbpmihbljngaa.PA
namespace Go.Proofs.Ytmgbpmihbljngaa.PA
open Go.RowKit Go.Proofs.YtmgbpmihbljngaaW.PrintWords Go.Proofs.YtmgbpmihbljngaaW.PrintLast Go.Proofs.YtmgbpmihbljngaaW.PrintMore
set_option linter.unusedVariables false
set_option linter.unusedSimpArgs false
def pw {n : Nat} (x : Fq n) : Nat → Fq n
  | 0 => 1
  | k + 1 => pw x k * x
theorem qhl {n : Nat} (x : Fq n) (a : Nat) : ∀ b, pw x (a + b) = pw x a * pw x b
  | 0 => by rw [Nat.add_zero, pw]; grind
  | b + 1 => by rw [← Nat.add_assoc, pw, pw, qhl x a b]; grind
def monA {n : Nat} (d : Nat) (P : Nat → Fq n) (r : Nat) : Fq n := pw (P 0) (r / 10) * pw (P 1) (r % 10) * pw (P 2) (d - (r / 10 + r % 10))
def evA {n : Nat} (d : Nat) (P : Nat → Fq n) (f : Nat → Fq n) : Fq n := sm 100 fun r => f r * monA d P r
def lowA {n : Nat} (d : Nat) (f : Nat → Fq n) : Prop := ∀ r, d < r / 10 + r % 10 → f r = 0
theorem qni {n : Nat} (P : Nat → Fq n) {d1 d2 j k : Nat} (h1 : j / 10 + j % 10 ≤ d1) (h2 : k / 10 + k % 10 ≤ d2) (hd : d1 + d2 ≤ 9) : monA (d1 + d2) P (j + k) = monA d1 P j * monA d2 P k := by
  unfold monA
  rw [show (j + k) / 10 = j / 10 + k / 10 by omega, show (j + k) % 10 = j % 10 + k % 10 by omega, show d1 + d2 - (j / 10 + k / 10 + (j % 10 + k % 10)) = (d1 - (j / 10 + j % 10)) + (d2 - (k / 10 + k % 10)) by omega, qhl, qhl, qhl]
  grind
theorem qlk {n : Nat} (P : Nat → Fq n) {d1 d2 : Nat} {f g : Nat → Fq n} (hf : lowA d1 f) (hg : lowA d2 g) (hd : d1 + d2 ≤ 9) : evA (d1 + d2) P (mulP f g) = evA d1 P f * evA d2 P g := by
  have e1 : evA (d1 + d2) P (mulP f g) = sm 100 fun i => sm (i + 1) fun j => f j * g (i - j) * monA (d1 + d2) P (j + (i - j)) := by
    refine j5 _ fun r _ => ?_
    rw [mulP, show (sm (r + 1) fun i => f i * g (r - i)) * monA (d1 + d2) P r = monA (d1 + d2) P r * sm (r + 1) fun i => f i * g (r - i) by grind, ← J6]
    refine j5 _ fun j hj => ?_
    rw [show j + (r - j) = r by omega]
    grind
  rw [e1, qke (fun j k => f j * g k * monA (d1 + d2) P (j + k))]
  have e2 : ∀ j, j < 100 → (sm (100 - j) fun k => f j * g k * monA (d1 + d2) P (j + k)) = f j * monA d1 P j * evA d2 P g := fun j hj => by
    by_cases h1 : d1 < j / 10 + j % 10
    · rw [hf j h1, Jc _ fun k _ => by grind]; grind
    · have hs := Jr (fun k => g k * monA d2 P k) (100 - j) j
      rw [show 100 - j + j = 100 by omega] at hs
      rw [evA, hs, Jc (f := fun i => g (100 - j + i) * monA d2 P (100 - j + i)) j fun k _ => by rw [hg (100 - j + k) (by omega)]; grind]
      rw [show f j * monA d1 P j * ((sm (100 - j) fun k => g k * monA d2 P k) + 0) = (f j * monA d1 P j) * sm (100 - j) fun k => g k * monA d2 P k by grind, ← J6]
      refine j5 _ fun k hk => ?_
      by_cases h2 : d2 < k / 10 + k % 10
      · rw [hg k h2]; grind
      · rw [qni P (by omega) (by omega) hd]; grind
  rw [j5 _ e2]
  have e3 : (sm 100 fun j => f j * monA d1 P j * evA d2 P g) = sm 100 fun j => evA d2 P g * (f j * monA d1 P j) := j5 _ fun j _ => by grind
  rw [e3, J6]
  show evA d2 P g * evA d1 P f = _
  grind
theorem qar {n : Nat} (v : Nat → Fq n) : lowA 3 (sprd v) := fun r h => by
  unfold sprd
  split <;> first | rfl | omega
theorem qol {n : Nat} {d1 d2 : Nat} {f g : Nat → Fq n} (hf : lowA d1 f) (hg : lowA d2 g) (hd : d1 + d2 ≤ 9) : lowA (d1 + d2) (mulP f g) := fun r hr => Jc _ fun k hk => by
  by_cases h1 : d1 < k / 10 + k % 10
  · rw [hf k h1]; grind
  · rw [hg (r - k) (by omega)]; grind
theorem qe6 {n : Nat} (v P : Nat → Fq n) : evA 3 P (sprd v) = valC v P := by
  have h : evA 3 P (sprd v) = sm 31 fun r => sprd v r * monA 3 P r := qkl (a := 31) (fun i hi => by rw [qar v i (by omega)]; grind) 100 (by omega)
  have s0 : sprd v 0 = v 9 := rfl
  have s1 : sprd v 1 = v 8 := rfl
  have s2 : sprd v 2 = v 7 := rfl
  have s3 : sprd v 3 = v 6 := rfl
  have s4 : sprd v 4 = 0 := rfl
  have s5 : sprd v 5 = 0 := rfl
  have s6 : sprd v 6 = 0 := rfl
  have s7 : sprd v 7 = 0 := rfl
  have s8 : sprd v 8 = 0 := rfl
  have s9 : sprd v 9 = 0 := rfl
  have s10 : sprd v 10 = v 5 := rfl
  have s11 : sprd v 11 = v 4 := rfl
  have s12 : sprd v 12 = v 3 := rfl
  have s13 : sprd v 13 = 0 := rfl
  have s14 : sprd v 14 = 0 := rfl
  have s15 : sprd v 15 = 0 := rfl
  have s16 : sprd v 16 = 0 := rfl
  have s17 : sprd v 17 = 0 := rfl
  have s18 : sprd v 18 = 0 := rfl
  have s19 : sprd v 19 = 0 := rfl
  have s20 : sprd v 20 = v 2 := rfl
  have s21 : sprd v 21 = v 1 := rfl
  have s22 : sprd v 22 = 0 := rfl
  have s23 : sprd v 23 = 0 := rfl
  have s24 : sprd v 24 = 0 := rfl
  have s25 : sprd v 25 = 0 := rfl
  have s26 : sprd v 26 = 0 := rfl
  have s27 : sprd v 27 = 0 := rfl
  have s28 : sprd v 28 = 0 := rfl
  have s29 : sprd v 29 = 0 := rfl
  have s30 : sprd v 30 = v 0 := rfl
  have p0 : ∀ x : Fq n, pw x 0 = 1 := fun _ => rfl
  have p1 : ∀ x : Fq n, pw x 1 = 1 * x := fun _ => rfl
  have p2 : ∀ x : Fq n, pw x 2 = 1 * x * x := fun _ => rfl
  have p3 : ∀ x : Fq n, pw x 3 = 1 * x * x * x := fun _ => rfl
  have m0 : monA 3 P 0 = pw (P 0) 0 * pw (P 1) 0 * pw (P 2) 3 := rfl
  have m1 : monA 3 P 1 = pw (P 0) 0 * pw (P 1) 1 * pw (P 2) 2 := rfl
  have m2 : monA 3 P 2 = pw (P 0) 0 * pw (P 1) 2 * pw (P 2) 1 := rfl
  have m3 : monA 3 P 3 = pw (P 0) 0 * pw (P 1) 3 * pw (P 2) 0 := rfl
  have m10 : monA 3 P 10 = pw (P 0) 1 * pw (P 1) 0 * pw (P 2) 2 := rfl
  have m11 : monA 3 P 11 = pw (P 0) 1 * pw (P 1) 1 * pw (P 2) 1 := rfl
  have m12 : monA 3 P 12 = pw (P 0) 1 * pw (P 1) 2 * pw (P 2) 0 := rfl
  have m20 : monA 3 P 20 = pw (P 0) 2 * pw (P 1) 0 * pw (P 2) 1 := rfl
  have m21 : monA 3 P 21 = pw (P 0) 2 * pw (P 1) 1 * pw (P 2) 0 := rfl
  have m30 : monA 3 P 30 = pw (P 0) 3 * pw (P 1) 0 * pw (P 2) 0 := rfl
  rw [h]
  simp only [sm, s0, s1, s2, s3, s4, s5, s6, s7, s8, s9, s10, s11, s12, s13, s14, s15, s16, s17, s18, s19, s20, s21, s22, s23, s24, s25, s26, s27, s28, s29, s30, m0, m1, m2, m3, m10, m11, m12, m20, m21, m30, p0, p1, p2, p3]
  unfold valC
  grind
theorem qkh {n : Nat} (F : Nat → Nat → Fq n) (b : Nat) : ∀ a, (sm a fun c => sm b fun r => F c r) = sm b fun r => sm a fun c => F c r
  | 0 => (Jc b fun _ _ => rfl).symm
  | a + 1 => by
    rw [sm, qkh F b a, ← qey]
    rfl
theorem rel_at {n : Nat} (s : Nat → Fq n) (B : Nat → Nat → Fq n) (P : Nat → Fq n) (h : ∀ r, r < 100 → (sm 20 fun c => s c * proT (fun i => sprd (B i)) c r) = 0) : (sm 20 fun c => s c * (valC (B (tI c)) P * valC (B (tJ c)) P * valC (B (tK c)) P)) = 0 := by
  have e : ∀ c, valC (B (tI c)) P * valC (B (tJ c)) P * valC (B (tK c)) P = evA 9 P (proT (fun i => sprd (B i)) c) := fun c => by
    have h1 := qlk P (qar (B (tI c))) (qar (B (tJ c))) (by omega)
    have h2 := qlk P (qol (qar (B (tI c))) (qar (B (tJ c))) (by omega)) (qar (B (tK c))) (by omega)
    rw [← qe6, ← qe6, ← qe6, ← h1, ← h2]
    rfl
  rw [j5 (g := fun c => sm 100 fun r => s c * proT (fun i => sprd (B i)) c r * monA 9 P r) _ fun c _ => by
    rw [e c, evA, ← J6]; exact j5 _ fun r _ => by grind]
  rw [qkh]
  refine Jc _ fun r hr => ?_
  rw [j5 (g := fun c => monA 9 P r * (s c * proT (fun i => sprd (B i)) c r)) _ fun c _ => by grind, J6, h r hr]
  grind
end Go.Proofs.Ytmgbpmihbljngaa.PA
namespace Go.Proofs.Ytmgbpmihbljngaa.PA
open Go.RowKit Go.Proofs.YtmgbpmihbljngaaW.PrintWords Go.Proofs.YtmgbpmihbljngaaW.PrintLast Go.Proofs.YtmgbpmihbljngaaW.PrintMore
set_option linter.unusedVariables false
set_option linter.unusedSimpArgs false
theorem qk1 {p : Int} (hp : zh p = true) (a : List Int) (t : Int × Int × Int) : fi (nn p) (dotP p a (cubR p t)) = valC (fun j => fi (nn p) (fn a j)) (p3 (nn p) t) := by
  rw [dotP, qbg hp, qe0, ← qc0 hp]
  exact j5 _ fun j _ => by grind
theorem qo8 (n : Nat) (f : List Int) (x y z w : Int) : fi n (xval f [x, y, z, w]) = sm 20 fun c => fi n (rd f (c : Int)) * (fi n (rd [x, y, z, w] (tI c : Nat)) * fi n (rd [x, y, z, w] (tJ c : Nat)) * fi n (rd [x, y, z, w] (tK c : Nat))) := by
  have r : rd [x, y, z, w] ((0 : Nat) : Int) = x ∧ rd [x, y, z, w] ((1 : Nat) : Int) = y ∧ rd [x, y, z, w] ((2 : Nat) : Int) = z ∧ rd [x, y, z, w] ((3 : Nat) : Int) = w := ⟨rfl, rfl, rfl, rfl⟩
  obtain ⟨r0, r1, r2, r3⟩ := r
  have q : rd [x, y, z, w] 0 = x ∧ rd [x, y, z, w] 1 = y ∧ rd [x, y, z, w] 2 = z ∧ rd [x, y, z, w] 3 = w := ⟨rfl, rfl, rfl, rfl⟩
  obtain ⟨q0, q1, q2, q3⟩ := q
  have t0 : tI 0 = 0 ∧ tJ 0 = 0 ∧ tK 0 = 0 := ⟨rfl, rfl, rfl⟩
  have t1 : tI 1 = 0 ∧ tJ 1 = 0 ∧ tK 1 = 1 := ⟨rfl, rfl, rfl⟩
  have t2 : tI 2 = 0 ∧ tJ 2 = 0 ∧ tK 2 = 2 := ⟨rfl, rfl, rfl⟩
  have t3 : tI 3 = 0 ∧ tJ 3 = 0 ∧ tK 3 = 3 := ⟨rfl, rfl, rfl⟩
  have t4 : tI 4 = 0 ∧ tJ 4 = 1 ∧ tK 4 = 1 := ⟨rfl, rfl, rfl⟩
  have t5 : tI 5 = 0 ∧ tJ 5 = 1 ∧ tK 5 = 2 := ⟨rfl, rfl, rfl⟩
  have t6 : tI 6 = 0 ∧ tJ 6 = 1 ∧ tK 6 = 3 := ⟨rfl, rfl, rfl⟩
  have t7 : tI 7 = 0 ∧ tJ 7 = 2 ∧ tK 7 = 2 := ⟨rfl, rfl, rfl⟩
  have t8 : tI 8 = 0 ∧ tJ 8 = 2 ∧ tK 8 = 3 := ⟨rfl, rfl, rfl⟩
  have t9 : tI 9 = 0 ∧ tJ 9 = 3 ∧ tK 9 = 3 := ⟨rfl, rfl, rfl⟩
  have t10 : tI 10 = 1 ∧ tJ 10 = 1 ∧ tK 10 = 1 := ⟨rfl, rfl, rfl⟩
  have t11 : tI 11 = 1 ∧ tJ 11 = 1 ∧ tK 11 = 2 := ⟨rfl, rfl, rfl⟩
  have t12 : tI 12 = 1 ∧ tJ 12 = 1 ∧ tK 12 = 3 := ⟨rfl, rfl, rfl⟩
  have t13 : tI 13 = 1 ∧ tJ 13 = 2 ∧ tK 13 = 2 := ⟨rfl, rfl, rfl⟩
  have t14 : tI 14 = 1 ∧ tJ 14 = 2 ∧ tK 14 = 3 := ⟨rfl, rfl, rfl⟩
  have t15 : tI 15 = 1 ∧ tJ 15 = 3 ∧ tK 15 = 3 := ⟨rfl, rfl, rfl⟩
  have t16 : tI 16 = 2 ∧ tJ 16 = 2 ∧ tK 16 = 2 := ⟨rfl, rfl, rfl⟩
  have t17 : tI 17 = 2 ∧ tJ 17 = 2 ∧ tK 17 = 3 := ⟨rfl, rfl, rfl⟩
  have t18 : tI 18 = 2 ∧ tJ 18 = 3 ∧ tK 18 = 3 := ⟨rfl, rfl, rfl⟩
  have t19 : tI 19 = 3 ∧ tJ 19 = 3 ∧ tK 19 = 3 := ⟨rfl, rfl, rfl⟩
  simp only [sm, t0.1, t0.2.1, t0.2.2, t1.1, t1.2.1, t1.2.2, t2.1, t2.2.1, t2.2.2, t3.1, t3.2.1, t3.2.2, t4.1, t4.2.1, t4.2.2, t5.1, t5.2.1, t5.2.2, t6.1, t6.2.1, t6.2.2, t7.1, t7.2.1, t7.2.2, t8.1, t8.2.1, t8.2.2, t9.1, t9.2.1, t9.2.2, t10.1, t10.2.1, t10.2.2, t11.1, t11.2.1, t11.2.2, t12.1, t12.2.1, t12.2.2, t13.1, t13.2.1, t13.2.2, t14.1, t14.2.1, t14.2.2, t15.1, t15.2.1, t15.2.2, t16.1, t16.2.1, t16.2.2, t17.1, t17.2.1, t17.2.2, t18.1, t18.2.1, t18.2.2, t19.1, t19.2.1, t19.2.2, r0, r1, r2, r3, xval, xs0, xs1, xs2, tri, Int.reduceAdd, Nat.reduceAdd, Nat.reduceMul, Nat.reduceDiv, Int.zero_add, Int.cast_ofNat_Int, q0, q1, q2, q3, qay, J3]
  grind
theorem img_on {p : Int} {Q : List (Int × Int × Int)} (hg : genB p Q = true) (t : Int × Int × Int) (u : Int) : xval (surP p Q) ((imgP p Q t).map fun x => x * u % p) % p = 0 := by
  obtain ⟨hp, h6, _, _⟩ := Qk hg
  have hl := Jx hp h6 (Z9 hg)
  obtain ⟨N, e, hN, a1, _⟩ := Qy hp (qem hp Q)
  have hm := qk9 hg
  rw [e] at hm
  obtain ⟨z, hz, ez⟩ := List.mem_map.1 hm
  have h0 : ∀ r, r < 100 → (sm 20 fun c => fi (nn p) (fn (surP p Q) c) * proT (fun i => sprd (basF p Q i)) c r) = 0 := fun r hr => by
    have h1 := a1 z hz (lstF (nn p) 20 fun c => proT (basS p Q) c r) (List.mem_map.2 ⟨r, List.mem_range.2 hr, rfl⟩)
    rw [ez, ← Jk hp, qe0] at h1
    rw [← h1]
    exact j5 _ fun c hc => by rw [qgp _ c hc]; show _ * proT (basS p Q) c r = _; grind
  have h1 := rel_at _ (basF p Q) (p3 (nn p) t) h0
  have hv : ∀ i, i < 4 → valC (basF p Q i) (p3 (nn p) t) = fi (nn p) (fn (imgP p Q t) i) := fun i hi => by
    have e2 : fn (imgP p Q t) i = dotP p ((basP p Q).getD i []) (cubR p t) := by
      simp [fn, rd, imgP, List.getD_eq_getElem?_getD, show i < (basP p Q).length by omega]
    rw [e2, qk1 hp]; rfl
  have hil : (imgP p Q t).length = 4 := by rw [imgP, List.length_map, hl]
  generalize imgP p Q t = M at *
  generalize surP p Q = F at *
  match M, hil with
  | [x, y, z, w], _ =>
    refine Int.emod_eq_zero_of_dvd ((Jk hp _).1 ?_)
    simp only [List.map_cons, List.map_nil]
    rw [qo8]
    have hu : ∀ i, i < 4 → fi (nn p) (rd [x * u % p, y * u % p, z * u % p, w * u % p] (i : Nat)) = valC (basF p Q i) (p3 (nn p) t) * fi (nn p) u := fun i hi => by
      rw [hv i hi]
      rcases (show i = 0 ∨ i = 1 ∨ i = 2 ∨ i = 3 by omega) with rfl | rfl | rfl | rfl
      · exact (qbg hp _).trans (J3 _ _ _)
      · exact (qbg hp _).trans (J3 _ _ _)
      · exact (qbg hp _).trans (J3 _ _ _)
      · exact (qbg hp _).trans (J3 _ _ _)
    have ht : ∀ c : Nat, c < 20 → tI c < 4 ∧ tJ c < 4 ∧ tK c < 4 := by decide
    rw [j5 (g := fun c => (fi (nn p) u * fi (nn p) u * fi (nn p) u) * (fi (nn p) (fn F c) * (valC (basF p Q (tI c)) (p3 (nn p) t) * valC (basF p Q (tJ c)) (p3 (nn p) t) * valC (basF p Q (tK c)) (p3 (nn p) t)))) _ fun c hc => by
      obtain ⟨t1, t2, t3⟩ := ht c hc
      rw [hu _ t1, hu _ t2, hu _ t3]
      show fi (nn p) (fn F c) * _ = _
      grind, J6, h1]
    grind
end Go.Proofs.Ytmgbpmihbljngaa.PA
namespace Go.Proofs.Ytmgbpmihbljngaa.PA
open Go.RowKit Go.Proofs.YtmgbpmihbljngaaW.PrintWords Go.Proofs.YtmgbpmihbljngaaW.PrintLast Go.Proofs.YtmgbpmihbljngaaW.PrintMore
set_option linter.unusedVariables false
set_option linter.unusedSimpArgs false
theorem qn1 {p : Int} (hp : 7 ≤ p ∧ p ≤ 31) {t : Int × Int × Int} (ht : inP p t) (j : Nat) (hj : j < 10) : fn (cubR p t) j = fn (cubI t) j % p := by
  rw [← qiq hp ht]
  have hl : j < (cubI t).length := by simp [cubI]; omega
  have e1 : fn ((cubI t).map (modV p)) j = modV p (fn (cubI t) j) := by
    simp [fn, rd, List.getD_eq_getElem?_getD, List.getElem?_eq_getElem hl]
  have e2 : fn (cubI t) j = monI t j := by simp [fn, rd, cubI, List.getD_eq_getElem?_getD, hj]
  rw [e1, e2, qgu hp (qhf hp.2 ht j hj).1]
theorem qlh {p : Int} (hp : zh p = true) (a : List Int) (ha : a.length = 10 ∧ ∀ x ∈ a, 0 ≤ x ∧ x < p) {t : Int × Int × Int} (ht : inP p t) : Ev (fun k => jc.f k p a (cubI t)) (dotP p a (cubR p t)) := by
  have hb := z5 hp
  have la := ha.1
  have lb : (cubI t).length = 10 := by simp [cubI]
  have hend : dotP p a (cubR p t) = modV p (dt 10 (fn a) (fn (cubI t))) ∧ True := by
    refine ⟨?_, trivial⟩
    have hn : 0 ≤ dt 10 (fn a) (fn (cubI t)) := by
      have : ∀ w, w ≤ 10 → 0 ≤ dt w (fn a) (fn (cubI t)) := by
        intro w
        induction w with
        | zero => intro _; rw [qfr]; omega
        | succ w ih =>
          intro hw
          have b1 := Zc ha w (by omega)
          have b2 : fn (cubI t) w = monI t w := by simp [fn, rd, cubI, List.getD_eq_getElem?_getD, show w < 10 by omega]
          have b3 := qhf (p := p) (by omega) ht w (by omega)
          have b4 := Int.mul_nonneg b1.1 (b2 ▸ b3.1)
          have := ih (by omega)
          rw [qa3]; omega
      exact this 10 (by omega)
    rw [qgu ⟨by omega, by omega⟩ hn, dotP]
    refine Int.emod_emod_of_dvd _ (Int.dvd_refl p) ▸ ?_
    have hc := qkv (p := p) (w := 10) (u := fn a) (u' := fn a) (v := fn (cubI t)) (v' := fn (cubR p t)) (fun j _ => by simp) (fun j hj => by rw [qn1 ⟨by omega, by omega⟩ ht j hj]; exact Jf _ _)
    exact (Int.emod_emod_of_dvd _ (Int.dvd_refl p)).trans (Int.emod_eq_emod_iff_emod_sub_eq_zero.2 (Int.emod_eq_zero_of_dvd hc)).symm
  have hl : ∀ (d i : Nat), i + d = 10 → 0 ≤ dt i (fn a) (fn (cubI t)) → dt i (fn a) (fn (cubI t)) ≤ i * 1000000000000000 → Ev (fun k => jc.l0 k p (cubI t) (dt i (fn a) (fn (cubI t))) a (a.length : Int) (i : Int)) (dotP p a (cubR p t)) := by
    intro d
    induction d with
    | zero =>
      intro i hi _ _
      obtain rfl : i = 10 := by omega
      exact Ev.step (f := fun _ => some (dotP p a (cubR p t))) (fun q => by rw [jc.l0, if_neg (by omega), qgs p _ (by omega), ← hend.1]; rfl) (Ev.now _)
    | succ d ih =>
      intro i hi h0 h1
      have b1 := Zc ha i (by omega)
      have b2 : fn (cubI t) i = monI t i := by simp [fn, rd, cubI, List.getD_eq_getElem?_getD, show i < 10 by omega]
      have b3 := qhf (p := p) (by omega) ht i (by omega)
      rw [← b2] at b3
      have b4 : 0 ≤ fn a i * fn (cubI t) i := Int.mul_nonneg b1.1 b3.1
      have b5 : fn a i * fn (cubI t) i ≤ 31 * 19683000000000 := Int.mul_le_mul (by omega) b3.2 b3.1 (by omega)
      have r1 : rd a (i : Int) = fn a i := rfl
      have r2 : rd (cubI t) (i : Int) = fn (cubI t) i := rfl
      refine Ev.step (fun q => by rw [jc.l0, if_pos (by omega), if_pos (by omega), if_pos (by omega), if_pos (by omega), r1, r2, wsm (i := fn a i * fn (cubI t) i) (by omega) (by omega), ← qa3, wsm (i := dt (i + 1) (fn a) (fn (cubI t))) (by rw [qa3]; omega) (by rw [qa3]; omega), wsm (by omega) (by omega)]) ?_
      exact ih (i + 1) (by omega) (by rw [qa3]; omega) (by rw [qa3]; omega)
  unfold jc.f
  have := hl 10 0 rfl (by rw [qfr]; omega) (by rw [qfr]; omega)
  rwa [qfr] at this
end Go.Proofs.Ytmgbpmihbljngaa.PA
namespace Go.Proofs.Ytmgbpmihbljngaa.PA
open Go.RowKit Go.Proofs.YtmgbpmihbljngaaW.PrintWords Go.Proofs.YtmgbpmihbljngaaW.PrintLast Go.Proofs.YtmgbpmihbljngaaW.PrintMore
set_option linter.unusedVariables false
set_option linter.unusedSimpArgs false
theorem qhx (l : List S43) (hl : l.length ≤ 1000) (t : Int × Int × Int) : ∀ (d i : Nat), i + d = l.length → (∀ j, j < i → (tps l).getD j (0, 0, 0) ≠ t) → ∃ r, Ev (fun k => zj.l0 k l (l.length : Int) (i : Int) t.1 t.2.1 t.2.2) r ∧ (0 ≤ r → ∃ j, j < l.length ∧ (tps l).getD j (0, 0, 0) = t) ∧ (r < 0 → ∀ j, j < l.length → (tps l).getD j (0, 0, 0) ≠ t)
  | 0, i, hi, hn => ⟨-1, Ev.step (f := fun _ => some (-1)) (fun q => by rw [zj.l0, if_neg (by omega)]) (Ev.now _), fun h => by omega, fun _ j hj => hn j (by omega)⟩
  | d + 1, i, hi, hn => by
    have e := qa2 l i (by omega)
    have f0 : (qd l (i : Int)).f0.f0 = ((tps l).getD i (0, 0, 0)).1 := by rw [← e]; rfl
    have f1 : (qd l (i : Int)).f0.f1 = ((tps l).getD i (0, 0, 0)).2.1 := by rw [← e]; rfl
    have f2 : (qd l (i : Int)).f0.f2 = ((tps l).getD i (0, 0, 0)).2.2 := by rw [← e]; rfl
    by_cases h : (tps l).getD i (0, 0, 0) = t
    · refine ⟨(i : Int), Ev.step (f := fun _ => some (i : Int)) (fun q => by rw [zj.l0, if_pos (by omega), if_pos (by omega), if_pos (by omega), f0, f1, f2, h, if_pos rfl, if_pos rfl, if_pos rfl]) (Ev.now _), fun _ => ⟨i, by omega, h⟩, fun h2 => by omega⟩
    · obtain ⟨r, hr, h1, h2⟩ := qhx l hl t d (i + 1) (by omega) fun j hj => by
        by_cases e2 : j = i
        · subst e2; exact h
        · exact hn j (by omega)
      refine ⟨r, Ev.step (fun q => ?_) hr, h1, h2⟩
      have hw : wrap64 ((i : Int) + 1) = ((i + 1 : Nat) : Int) := by rw [wsm (by omega) (by omega)]; rfl
      rw [zj.l0, if_pos (by omega), if_pos (by omega), if_pos (by omega), f0, f1, f2, hw]
      by_cases g0 : t.1 = ((tps l).getD i (0, 0, 0)).1
      · by_cases g1 : t.2.1 = ((tps l).getD i (0, 0, 0)).2.1
        · by_cases g2 : t.2.2 = ((tps l).getD i (0, 0, 0)).2.2
          · exact absurd (Prod.ext g0.symm (Prod.ext g1.symm g2.symm)) h
          · rw [if_pos g0, if_pos g1, if_neg g2]
        · rw [if_pos g0, if_neg g1]
      · rw [if_neg g0]
theorem qh2 (l : List S43) (hl : l.length ≤ 1000) (t : Int × Int × Int) : ∃ b, Ev (fun k => j3.f k l t.1 t.2.1 t.2.2) b ∧ (b = true → ∃ j, j < l.length ∧ (tps l).getD j (0, 0, 0) = t) := by
  obtain ⟨r, hr, h1, _⟩ := qhx l hl t l.length 0 (by omega) fun j hj => by omega
  refine ⟨decide (r ≥ 0), ?_, fun h => h1 (of_decide_eq_true h)⟩
  unfold j3.f zj.f
  exact Ev.bind hr (Ev.now _)
end Go.Proofs.Ytmgbpmihbljngaa.PA
namespace Go.Proofs.Ytmgbpmihbljngaa.PA
open Go.RowKit Go.Proofs.YtmgbpmihbljngaaW.PrintWords Go.Proofs.YtmgbpmihbljngaaW.PrintLast Go.Proofs.YtmgbpmihbljngaaW.PrintMore
set_option linter.unusedVariables false
set_option linter.unusedSimpArgs false
theorem qkc {p : Int} {Q : List (Int × Int × Int)} (hg : genB p Q = true) (t : Int × Int × Int) (ht : inP p t) : Ev (fun k => zy.f k p (basP p Q) t.1 t.2.1 t.2.2) (monP p (imgP p Q t)) := by
  obtain ⟨hp, h6, _, _⟩ := Qk hg
  have hb := z5 hp
  have hl := Jx hp h6 (Z9 hg)
  have hrow := fun i hi => qdf (Q := Q) hp i hi
  have hend : imgP p Q t = ((basP p Q).map fun r => dotP p r (cubR p t)) := rfl
  have hrg := qbz hp Q t
  have hml : (imgP p Q t).length = 4 := by rw [imgP, List.length_map, hl]
  generalize imgP p Q t = M at *
  generalize basP p Q = B at *
  have h0 : ∀ (d i : Nat) (acc : List Int), i + d = 4 → acc = (B.take i).map (fun r => dotP p r (cubR p t)) → Ev (fun k => zy.l0 k p acc B (B.length : Int) (i : Int) t.1 t.2.1 t.2.2) (monP p M) := by
    intro d
    induction d with
    | zero =>
      intro i acc hi ha
      rw [List.take_of_length_le (by omega), ← hend] at ha
      subst ha
      have hm := qm6 hp acc (by omega) fun x hx => by have := hrg x hx; omega
      have e : acc.map (fun x => x % p) = acc := by
        rw [List.map_congr_left (g := id)]
        · simp
        · intro x hx; have := hrg x hx; exact Int.emod_eq_of_lt this.1 this.2
      rw [e] at hm
      refine Ev.step (fun q => by rw [zy.l0, if_neg (by omega)]) ?_
      exact Ev.bind hm (Ev.now _)
    | succ d ih =>
      intro i acc hi ha
      have hal : acc.length ≤ 1000 := by rw [ha, List.length_map, List.length_take]; omega
      have hd := qlh hp (B.getD i []) (hrow i (by omega)) ht
      refine Ev.step (fun q => by rw [zy.l0, if_pos (by omega), if_pos (by omega), if_pos (by omega), qbk]) ?_
      refine Ev.bind (qeq (p := p) (by omega) t ht) (Ev.bind hd (Ev.yes (show acc.length < 17592186044416 by omega) ?_))
      rw [wsm (by omega) (by omega)]
      refine ih (i + 1) _ (by omega) ?_
      rw [ha, List.take_add_one, List.map_append, List.getD_eq_getElem?_getD, List.getElem?_eq_getElem (by omega)]
      rfl
  unfold zy.f
  exact h0 4 0 [] rfl rfl
theorem qnp {p : Int} {Q : List (Int × Int × Int)} (hg : genB p Q = true) (j : Nat) (hj : j < Q.length) : (imgP p Q (Q.getD j (0, 0, 0))).all (fun x => x == 0) = true := by
  obtain ⟨hp, h6, _, _⟩ := Qk hg
  have hb := z5 hp
  rw [List.all_eq_true]
  intro x hx
  have hr := qbz hp Q (Q.getD j (0, 0, 0)) x hx
  obtain ⟨r, hr2, rfl⟩ := List.mem_map.1 hx
  obtain ⟨i, hi, rfl⟩ := qab hr2
  have h1 := qk1 hp ((basP p Q).getD i []) (Q.getD j (0, 0, 0))
  have h2 := qm2 hp (Q := Q) i j hi hj
  rw [show p3 (nn p) (Q.getD j (0, 0, 0)) = ptL p Q j from rfl, show (fun j => fi (nn p) (fn ((basP p Q).getD i []) j)) = basF p Q i from rfl, h2, Jk hp] at h1
  obtain ⟨c, hc⟩ := h1
  have : c = 0 := by
    rcases (show c ≤ -1 ∨ c = 0 ∨ 1 ≤ c by omega) with h | h | h
    · have := Int.mul_le_mul_of_nonneg_left h (show 0 ≤ p by omega); omega
    · exact h
    · have := Int.mul_le_mul_of_nonneg_left h (show 0 ≤ p by omega); omega
  rw [this, Int.mul_zero] at hc
  rw [hc]; rfl
theorem qfz (p : Int) (l : List S43) (t : Int × Int × Int) : Ev (fun k => qu.f k p l t.1 t.2.1 t.2.2) (Zr p (tps l) t) := by
  have hlen : (tps l).length = l.length := by simp [tps]
  have hno : ∀ r, r = ([], false) → Ev (fun k => qu.j0 k p l true t.1 t.2.1 t.2.2) r := fun r h => by
    subst h
    exact Ev.step (f := fun _ => some ([], false)) (fun q => by rw [qu.j0, if_pos rfl]) (Ev.now _)
  unfold qu.f
  refine Ev.bind (qah p l) ?_
  cases hg : genB p (tps l) with
  | false =>
    refine Ev.no (by simp) (hno _ ?_)
    rw [Zr, if_neg (by simp [hg])]
  | true =>
    obtain ⟨hp, h6, ha, _⟩ := Qk hg
    refine Ev.yes rfl (Ev.bind (Ev.k (qco p t.1 t.2.1 t.2.2)) ?_)
    cases hpt : ptB p t.1 t.2.1 t.2.2 with
    | false =>
      refine Ev.no (by simp) (hno _ ?_)
      rw [Zr, if_neg (by simp [hpt])]
    | true =>
      have ht : inP p t := Ja hpt
      obtain ⟨b, hb, hc⟩ := qh2 l (by omega) t
      have hi := qkc hg t ht
      have hbs := qdp hp l (by omega) fun j hj => Ja ((Zi ha).1 j (by omega))
      refine Ev.yes rfl (Ev.bind hb ?_)
      cases b with
      | true =>
        obtain ⟨j, hj, e⟩ := hc rfl
        have hz := qnp hg j (by omega)
        rw [e] at hz
        refine hno _ ?_
        rw [Zr, if_neg (by simp [hz])]
      | false =>
        have hml : (imgP p (tps l) t).length = 4 := by rw [imgP, List.length_map, Jx hp h6 (Z9 hg)]
        rw [Zr]
        rw [monP] at hi
        generalize imgP p (tps l) t = M at *
        refine Ev.step (fun q => by rw [qu.j0, if_neg (by simp)]) ?_
        refine Ev.bind hbs (Ev.bind hi ?_)
        cases hm : M.all (fun x => x == 0) with
        | true =>
          rw [if_pos rfl, if_neg (by simp)]
          exact Ev.now _
        | false =>
          rw [if_neg (by simp), if_pos ⟨⟨hg, hpt⟩, rfl⟩]
          have e : decide (((rowP p M).length : Int) > 0) = true := decide_eq_true (by rw [rowP, List.length_map]; omega)
          rw [e]
          exact Ev.now _
end Go.Proofs.Ytmgbpmihbljngaa.PA
namespace Go.Proofs.Ytmgbpmihbljngaa.PA
open Go.RowKit Go.Proofs.YtmgbpmihbljngaaW.PrintWords Go.Proofs.YtmgbpmihbljngaaW.PrintLast Go.Proofs.YtmgbpmihbljngaaW.PrintMore
set_option linter.unusedVariables false
set_option linter.unusedSimpArgs false
theorem qf7 {p : Int} (hp : zh p = true) (a : List Int) (ha : a.length = 10 ∧ ∀ x ∈ a, 0 ≤ x ∧ x < p) (t : Int × Int × Int) (hpt : ptB p t.1 t.2.1 t.2.2 = true) : Ev (fun k => qz.f k p a t.1 t.2.1 t.2.2) (dotP p a (cubR p t), true) := by
  have hb := z5 hp
  have ht : inP p t := Ja hpt
  unfold qz.f
  have e := qan p a 10
  rw [qdd hp ha.1 ha.2] at e
  refine Ev.bind (Ev.k e) (Ev.yes rfl (Ev.bind (Ev.k (qco p t.1 t.2.1 t.2.2)) ?_))
  rw [hpt]
  refine Ev.step (fun q => by rw [qz.j0, if_neg (by simp)]) ?_
  exact Ev.bind (qeq (p := p) (by omega) t ht) (Ev.bind (qlh hp a ha ht) (Ev.now _))
theorem qg6 {p : Int} (l : List S43) (hg : genB p (tps l) = true) : Ev (fun k => jk.f k p l) (basP p (tps l), true) := by
  have hlen : (tps l).length = l.length := by simp [tps]
  obtain ⟨hp, h6, ha, _⟩ := Qk hg
  have h := qah p l
  rw [hg] at h
  unfold jk.f
  exact Ev.bind h (Ev.yes rfl (Ev.bind (qdp hp l (by omega) fun j hj => Ja ((Zi ha).1 j (by omega))) (Ev.now _)))
end Go.Proofs.Ytmgbpmihbljngaa.PA
namespace Go.Proofs.Ytmgbpmihbljngaa.PA
open Go.RowKit Go.Proofs.YtmgbpmihbljngaaW.PrintWords Go.Proofs.YtmgbpmihbljngaaW.PrintLast Go.Proofs.YtmgbpmihbljngaaW.PrintMore
set_option linter.unusedVariables false
set_option linter.unusedSimpArgs false
def qa8 (b : List Int) : Prop := b.length ≤ 2000 ∧ ∀ x ∈ b, 0 ≤ x ∧ x ≤ 255
theorem wf_u8 {x : Int} (h : (Lit.int .u8 x).wf = true) : 0 ≤ x ∧ x ≤ 255 := by
  simp [Lit.wf, IntKind.min, IntKind.max, IntKind.signed, IntKind.bits] at h
  omega
theorem qmt (l : List Int) (h : ∀ x ∈ l, (Lit.int .u8 x).wf = true) : ∃ b, Za.f l = some (b, 0) ∧ qa8 b := by
  unfold Za.f
  by_cases hl : (l.length : Int) > 2000
  · rw [if_pos hl, if_pos (by omega)]
    exact ⟨_, rfl, by simp; omega, fun x hx => wf_u8 (h x (List.mem_of_mem_take hx))⟩
  · rw [if_neg hl]
    exact ⟨_, rfl, by omega, fun x hx => wf_u8 (h x hx)⟩
end Go.Proofs.Ytmgbpmihbljngaa.PA
namespace Go.Proofs.Ytmgbpmihbljngaa.PA
open Go.RowKit Go.Proofs.YtmgbpmihbljngaaW.PrintWords Go.Proofs.YtmgbpmihbljngaaW.PrintLast Go.Proofs.YtmgbpmihbljngaaW.PrintMore
set_option linter.unusedVariables false
set_option linter.unusedSimpArgs false
theorem qed (x y : Int) (hx : 0 ≤ x) (hy : 0 ≤ y) (hx2 : x < 2 ^ 40) (hy2 : y < 2 ^ 40) : 0 ≤ Go.bits .xor .i64 x y := by
  obtain ⟨a, rfl⟩ := Int.eq_ofNat_of_zero_le hx
  obtain ⟨b, rfl⟩ := Int.eq_ofNat_of_zero_le hy
  have ha : a < 2 ^ 40 := by omega
  have hb : b < 2 ^ 40 := by omega
  have hc := Nat.xor_lt_two_pow ha hb
  have e : (BitVec.ofInt 64 (a : Int) ^^^ BitVec.ofInt 64 (b : Int)).toNat = a ^^^ b := by
    rw [BitVec.toNat_xor, BitVec.ofInt_natCast, BitVec.ofInt_natCast, BitVec.toNat_ofNat, BitVec.toNat_ofNat, Nat.mod_eq_of_lt (by omega), Nat.mod_eq_of_lt (by omega)]
  show 0 ≤ IntKind.wrap .i64 (((BitVec.ofInt 64 (a : Int) ^^^ BitVec.ofInt 64 (b : Int)).toNat : Nat) : Int)
  rw [e]
  generalize a ^^^ b = c at hc
  have hm : ((c : Int)) % (2 ^ 64 : Int) = c := by omega
  simp only [IntKind.wrap, IntKind.bits, IntKind.signed, hm]
  rw [if_neg (by simp; omega)]
  omega
theorem qgv {b : List Int} (h : qa8 b) (i : Int) : 0 ≤ rd b i ∧ rd b i ≤ 255 := by
  unfold rd
  rw [List.getD_eq_getElem?_getD]
  cases hi : b[i.toNat]? with
  | none => simp
  | some x => exact h.2 x (List.mem_of_getElem? hi)
theorem Jd (b : List Int) (h : qa8 b) (p n : Int) (hp : 0 ≤ p) (hp2 : p ≤ 1000000) : ∃ v, Ev (fun k => ql.f k b p n) (v, p + 1) ∧ 0 ≤ v ∧ (1 ≤ n → v < n) := by
  have w1 : wrap64 (p + 1) = p + 1 := wsm (by omega) (by omega)
  have w2 : wrap64 (p + 1 - 1) = p := by rw [wsm (by omega) (by omega)]; omega
  unfold ql.f
  by_cases hn : n < 1
  · refine ⟨0, Ev.yes hn ?_, by omega, by omega⟩
    refine Ev.step (f := fun _ => some (0, p + 1)) (fun k => ?_) (Ev.now _)
    rw [ql.j0, if_pos rfl, w1]
  · by_cases hb : b.length = 0
    · refine ⟨0, Ev.no hn ?_, by omega, by omega⟩
      refine Ev.step (f := fun _ => some (0, p + 1)) (fun k => ?_) (Ev.now _)
      rw [ql.j0, if_pos (by simp [hb]), w1]
    · have hbf : ¬ ((b.length : Int) == 0) = true := by simp; intro e; simp [e] at hb
      have hb0 : ¬ (b.length : Int) = 0 := by omega
      by_cases hlt : p < (b.length : Int)
      · have hr := qgv h p
        refine ⟨Int.tmod (rd b p) n, Ev.no hn ?_, Int.tmod_nonneg _ hr.1, fun _ => Int.tmod_lt_of_pos _ (by omega)⟩
        refine Ev.step (f := fun _ => some (Int.tmod (rd b p) n, p + 1)) (fun k => ?_) (Ev.now _)
        rw [ql.j0, if_neg hbf, w1, w2, if_pos hlt, if_pos hp, if_neg (by omega), wsm (by omega) (by omega)]
      · have hlp : 0 < (b.length : Int) := by omega
        have hi1 := Int.tmod_nonneg (b.length : Int) hp
        have hi2 := Int.tmod_lt_of_pos p hlp
        have w3 : wrap64 (wrap64 (p * 7) + 3) = p * 7 + 3 := by rw [wsm (i := p * 7) (by omega) (by omega), wsm (by omega) (by omega)]
        have hj1 := Int.tmod_nonneg (b.length : Int) (a := p * 7 + 3) (by omega)
        have hj2 := Int.tmod_lt_of_pos (p * 7 + 3) hlp
        have r1 := qgv h (Int.tmod p (b.length : Int))
        have r2 := qgv h (Int.tmod (p * 7 + 3) (b.length : Int))
        have hq0 : 0 ≤ Int.tdiv p (b.length : Int) := Int.tdiv_nonneg hp (by omega)
        have hq1 : Int.tdiv p (b.length : Int) ≤ p := by rw [Int.tdiv_eq_ediv_of_nonneg hp]; exact Int.ediv_le_self _ hp
        have e := @ql.j0.eq_2
        generalize hx : wrap64 (wrap64 (wrap64 (wrap64 (wrap64 (rd b (Int.tmod p (b.length : Int))) * 131) + wrap64 (wrap64 (rd b (Int.tmod (p * 7 + 3) (b.length : Int))) * 1117)) + wrap64 (p * 29)) + wrap64 (wrap64 (Int.tdiv p (b.length : Int)) * 53)) = X
        have hX : 0 ≤ X ∧ X < 2 ^ 40 := by
          rw [← hx]
          generalize rd b (Int.tmod p (b.length : Int)) = y1 at r1
          generalize rd b (Int.tmod (p * 7 + 3) (b.length : Int)) = y2 at r2
          generalize Int.tdiv p (b.length : Int) = y3 at hq0 hq1
          rw [wsm (i := y1) (by omega) (by omega), wsm (i := y2) (by omega) (by omega), wsm (i := y3) (by omega) (by omega), wsm (i := y1 * 131) (by omega) (by omega), wsm (i := y2 * 1117) (by omega) (by omega), wsm (i := y3 * 53) (by omega) (by omega), wsm (i := p * 29) (by omega) (by omega), wsm (i := y1 * 131 + y2 * 1117) (by omega) (by omega), wsm (i := y1 * 131 + y2 * 1117 + p * 29) (by omega) (by omega), wsm (by omega) (by omega)]
          omega
        have hd : 0 ≤ Int.tdiv X 64 ∧ Int.tdiv X 64 ≤ X := by rw [Int.tdiv_eq_ediv_of_nonneg hX.1]; omega
        have hxor := qed X (wrap64 (Int.tdiv X 64)) hX.1 (by rw [wsm (by omega) (by omega)]; omega) hX.2 (by rw [wsm (by omega) (by omega)]; omega)
        refine ⟨Int.tmod (Go.bits .xor .i64 X (wrap64 (Int.tdiv X 64))) n, Ev.no hn ?_, Int.tmod_nonneg _ hxor, fun _ => Int.tmod_lt_of_pos _ (by omega)⟩
        refine Ev.step (f := fun _ => some (Int.tmod (Go.bits .xor .i64 X (wrap64 (Int.tdiv X 64))) n, p + 1)) (fun k => ?_) (Ev.now _)
        rw [ql.j0, if_neg hbf, w1, w2, if_neg hlt, if_neg hb0, if_pos hi1, if_pos hi2, w3, if_pos hj1, if_pos hj2, if_neg (by omega), hx]
end Go.Proofs.Ytmgbpmihbljngaa.PA
namespace Go.Proofs.Ytmgbpmihbljngaa.PA
open Go.RowKit Go.Proofs.YtmgbpmihbljngaaW.PrintWords Go.Proofs.YtmgbpmihbljngaaW.PrintLast Go.Proofs.YtmgbpmihbljngaaW.PrintMore
set_option linter.unusedVariables false
set_option linter.unusedSimpArgs false
theorem qic (b : List Int) (h : qa8 b) (p : Int) (hp : 0 ≤ p) (hp2 : p ≤ 1000000) : ∃ v, Ev (fun k => j4.f k b p) (v, p + 1) ∧ (v = 7 ∨ v = 11 ∨ v = 13 ∨ v = 17 ∨ v = 19 ∨ v = 23 ∨ v = 29 ∨ v = 31 ∨ v = 9 ∨ v = 5) := by
  obtain ⟨v, hv, h0, h1⟩ := Jd b h p 13 hp hp2
  have h2 := h1 (by omega)
  refine ⟨rd ([7, 11, 13, 17, 19, 23, 29, 31, 13, 19, 31, 9, 5] : List Int) v, ?_, ?_⟩
  · unfold j4.f
    refine Ev.bind (Ev.now _) (Ev.bind hv ?_)
    exact Ev.yes h0 (Ev.yes (by simpa using h2) (Ev.now _))
  · have : v = 0 ∨ v = 1 ∨ v = 2 ∨ v = 3 ∨ v = 4 ∨ v = 5 ∨ v = 6 ∨ v = 7 ∨ v = 8 ∨ v = 9 ∨ v = 10 ∨ v = 11 ∨ v = 12 := by omega
    rcases this with rfl | rfl | rfl | rfl | rfl | rfl | rfl | rfl | rfl | rfl | rfl | rfl | rfl <;> simp [rd]
end Go.Proofs.Ytmgbpmihbljngaa.PA
namespace Go.Proofs.Ytmgbpmihbljngaa.PA
open Go.RowKit Go.Proofs.YtmgbpmihbljngaaW.PrintWords Go.Proofs.YtmgbpmihbljngaaW.PrintLast Go.Proofs.YtmgbpmihbljngaaW.PrintMore
set_option linter.unusedVariables false
set_option linter.unusedSimpArgs false
theorem qoj (a b c : Int) : ji.f a b c = some (decide (b ≤ a) && decide (a ≤ c)) := by
  unfold ji.f
  by_cases h : a ≥ b
  · rw [if_pos h, decide_eq_true (show b ≤ a from h), Bool.true_and]
  · rw [if_neg h, decide_eq_false (show ¬ b ≤ a from h), Bool.false_and]
end Go.Proofs.Ytmgbpmihbljngaa.PA
namespace Go.Proofs.Ytmgbpmihbljngaa.PA
open Go.RowKit Go.Proofs.YtmgbpmihbljngaaW.PrintWords Go.Proofs.YtmgbpmihbljngaaW.PrintLast Go.Proofs.YtmgbpmihbljngaaW.PrintMore
set_option linter.unusedVariables false
set_option linter.unusedSimpArgs false
theorem qig (p x y z : Int) (hx : 0 ≤ x ∧ x ≤ 100) (hy : 0 ≤ y ∧ y ≤ 100) (hz : 0 ≤ z ∧ z ≤ 100) : ∃ r, Ev (fun k => zk.f k p x y z) r := by
  cases hp : zh p with
  | false =>
    refine ⟨(0, 0, 0, false), ?_⟩
    unfold zk.f
    refine Ev.bind (Ev.k (qcp p)) ?_
    rw [hp]
    exact Ev.no (by simp) (Ev.step (f := fun _ => some (0, 0, 0, false)) (fun k => by rw [zk.j0, if_pos rfl]) (Ev.now _))
  | true =>
    have hb := z5 hp
    have hi : ∀ w : Int, 0 ≤ w ∧ w ≤ 100 → ji.f w (-1000) 1000 = some true := fun w hw => by
      rw [qoj, decide_eq_true (show (-1000 : Int) ≤ w by omega), decide_eq_true (show w ≤ 1000 by omega)]; rfl
    have hm : ∀ w : Int, 0 ≤ w ∧ w ≤ 100 → jo.f p w = some (w % p) := fun w hw => by
      rw [qat _ _ (by omega), ← Zj ⟨by omega, by omega⟩ (show -1000000000 ≤ w by omega) (by omega), wsm (by omega) (by omega)]
    have hr : ∀ w ∈ [x % p, y % p, z % p], 0 ≤ w ∧ w < p := fun w hw => by
      simp only [List.mem_cons, List.not_mem_nil, or_false] at hw
      rcases hw with rfl | rfl | rfl <;> exact ⟨Int.emod_nonneg _ (by omega), Int.emod_lt_of_pos _ (by omega)⟩
    have hj : ∃ r, Ev (fun k => zk.j0 k p x y z false) r := by
      cases hz0 : ([x % p, y % p, z % p].all fun x => x == 0) with
      | true =>
        refine ⟨(0, 0, 0, false), Ev.step (fun k => by rw [zk.j0, if_neg (by simp), hm x hx, Option.bind_some, hm y hy, Option.bind_some, hm z hz, Option.bind_some, Option.bind_some]) (Ev.bind (qbu _ (by simp)) ?_)⟩
        rw [hz0]
        exact Ev.yes rfl (Ev.now _)
      | false =>
        refine ⟨(rd (rowP p [x % p, y % p, z % p]) 0, rd (rowP p [x % p, y % p, z % p]) 1, rd (rowP p [x % p, y % p, z % p]) 2, true), Ev.step (fun k => by rw [zk.j0, if_neg (by simp), hm x hx, Option.bind_some, hm y hy, Option.bind_some, hm z hz, Option.bind_some, Option.bind_some]) (Ev.bind (qbu _ (by simp)) ?_)⟩
        rw [hz0]
        refine Ev.no (by simp) ?_
        have hP : Ev (fun k => jn.f k p [x % p, y % p, z % p]) (rd (rowP p [x % p, y % p, z % p]) 0, rd (rowP p [x % p, y % p, z % p]) 1, rd (rowP p [x % p, y % p, z % p]) 2) := by
          unfold jn.f
          exact Ev.bind (qc1 hp _ hr (by simp)) (Ev.yes (by simp [rowP]) (Ev.yes (by simp [rowP]) (Ev.yes (by simp [rowP]) (Ev.now _))))
        exact Ev.bind hP (Ev.now _)
    obtain ⟨r, hr2⟩ := hj
    refine ⟨r, ?_⟩
    unfold zk.f
    refine Ev.bind (Ev.k (qcp p)) ?_
    rw [hp]
    exact Ev.yes rfl (Ev.bind (Ev.k (hi x hx)) (Ev.yes rfl (Ev.bind (Ev.k (hi y hy)) (Ev.yes rfl (Ev.bind (Ev.k (hi z hz)) hr2)))))
theorem qbj (b : List Int) (hb : qa8 b) (p s : Int) (hp : 1 ≤ p ∧ p ≤ 31) (h0 : 0 ≤ s) (h1 : s ≤ 900000) : ∃ x y z s', Ev (fun k => jm.f k b s p) (x, y, z, s') ∧ s ≤ s' ∧ s' ≤ s + 10 := by
  obtain ⟨u, hu, u0, u1⟩ := Jd b hb s 3 h0 (by omega)
  obtain ⟨v, hv, v0, v1⟩ := Jd b hb (s + 1) p (by omega) (by omega)
  obtain ⟨w, hw, w0, w1⟩ := Jd b hb (s + 1 + 1) p (by omega) (by omega)
  have u2 := u1 (by omega)
  have v2 := v1 (by omega)
  have w2 := w1 (by omega)
  obtain ⟨⟨x, y, z, ok⟩, hr⟩ := qig p u v w ⟨u0, by omega⟩ ⟨v0, by omega⟩ ⟨w0, by omega⟩
  unfold jm.f
  cases ok with
  | false => exact ⟨0, 0, 1, s + 1 + 1 + 1, Ev.bind hu (Ev.bind hv (Ev.bind hw (Ev.bind hr (Ev.no (by simp) (Ev.now _))))), by omega, by omega⟩
  | true =>
    obtain ⟨t, ht, t0, t1⟩ := Jd b hb (s + 1 + 1 + 1) 24 (by omega) (by omega)
    by_cases e : t = 0
    · exact ⟨2, y, z, s + 1 + 1 + 1 + 1, Ev.bind hu (Ev.bind hv (Ev.bind hw (Ev.bind hr (Ev.yes rfl (Ev.bind ht (Ev.yes e (Ev.now _))))))), by omega, by omega⟩
    · exact ⟨x, y, z, s + 1 + 1 + 1 + 1, Ev.bind hu (Ev.bind hv (Ev.bind hw (Ev.bind hr (Ev.yes rfl (Ev.bind ht (Ev.no e (Ev.now _))))))), by omega, by omega⟩
end Go.Proofs.Ytmgbpmihbljngaa.PA
namespace Go.Proofs.Ytmgbpmihbljngaa.PA
open Go.RowKit Go.Proofs.YtmgbpmihbljngaaW.PrintWords Go.Proofs.YtmgbpmihbljngaaW.PrintLast Go.Proofs.YtmgbpmihbljngaaW.PrintMore
set_option linter.unusedVariables false
set_option linter.unusedSimpArgs false
theorem qit (b : List Int) (hb : qa8 b) (p : Int) (hp : 5 ≤ p ∧ p ≤ 31) (o : List S43) (ho : o.length = 4) : ∀ (d i : Nat) (s : Int), i + d = 12 → 0 ≤ s → s + 4 * d ≤ 800000 → ∃ q l s', Ev (fun k => zn.l0 k p o (i : Int) b s) (q, l, s') ∧ q = p ∧ l.length = 6 ∧ s ≤ s' ∧ s' ≤ s + 4 * d + 20
  | 0, i, s, hi, h0, h1 => by
    obtain ⟨x, y, z, s1, e1, g1, g2⟩ := qbj b hb p s (by omega) h0 (by omega)
    obtain ⟨x2, y2, z2, s2, e2, g3, g4⟩ := qbj b hb p s1 (by omega) (by omega) (by omega)
    refine ⟨p, o ++ [⟨⟨x, y, z⟩⟩, ⟨⟨x2, y2, z2⟩⟩], s2, Ev.step (fun k => by rw [zn.l0, if_neg (by omega)]) (Ev.bind e1 (Ev.bind e2 (Ev.bind (Ev.now _) ?_))), rfl, by simp [ho], by omega, by omega⟩
    exact Ev.yes (by simp [ho]) (Ev.now _)
  | d + 1, i, s, hi, h0, h1 => by
    have hw : wrap64 (p - 2) = p - 2 := wsm (by omega) (by omega)
    obtain ⟨a1, k1, _, _⟩ := Jd b hb s (p - 2) h0 (by omega)
    obtain ⟨a2, k2, _, _⟩ := Jd b hb (s + 1) (p - 2) (by omega) (by omega)
    obtain ⟨a3, k3, _, _⟩ := Jd b hb (s + 1 + 1) (p - 2) (by omega) (by omega)
    obtain ⟨a4, k4, _, _⟩ := Jd b hb (s + 1 + 1 + 1) (p - 2) (by omega) (by omega)
    obtain ⟨l, hl⟩ : ∃ l : List S43, l = ([] ++ o) ++ [⟨⟨1, wrap64 (2 + a1), wrap64 (2 + a2)⟩⟩, ⟨⟨1, wrap64 (2 + a3), wrap64 (2 + a4)⟩⟩] := ⟨_, rfl⟩
    cases hg : genB p (tps l) with
    | true =>
      refine ⟨p, l, s + 1 + 1 + 1 + 1, Ev.step (fun k => by rw [zn.l0, if_pos (by omega), hw]) (Ev.bind k1 (Ev.bind k2 (Ev.bind k3 (Ev.bind k4 (Ev.bind (Ev.now _) ?_))))), rfl, by rw [hl]; simp [ho], by omega, by omega⟩
      refine Ev.yes (by simp [ho]) (Ev.bind (Ev.now _) (Ev.bind (Ev.now _) ?_))
      refine Ev.yes (by simp [ho]) (Ev.bind (Ev.now _) (Ev.bind (Js p _) ?_))
      rw [← hl, hg]
      exact Ev.yes rfl (Ev.now _)
    | false =>
      obtain ⟨q, m, s', he, hq, hm, g1, g2⟩ := qit b hb p hp o ho d (i + 1) (s + 1 + 1 + 1 + 1) (by omega) (by omega) (by omega)
      refine ⟨q, m, s', Ev.step (fun k => by rw [zn.l0, if_pos (by omega), hw]) (Ev.bind k1 (Ev.bind k2 (Ev.bind k3 (Ev.bind k4 (Ev.bind (Ev.now _) ?_))))), hq, hm, by omega, by omega⟩
      refine Ev.yes (by simp [ho]) (Ev.bind (Ev.now _) (Ev.bind (Ev.now _) ?_))
      refine Ev.yes (by simp [ho]) (Ev.bind (Ev.now _) (Ev.bind (Js p _) ?_))
      rw [← hl, hg]
      refine Ev.no (by simp) ?_
      rw [wsm (by omega) (by omega)]
      exact he
theorem ql3 (b : List Int) (hb : qa8 b) (s : Int) (h0 : 0 ≤ s) (h1 : s ≤ 700000) : ∃ p l s', Ev (fun k => zn.f k b s) (p, l, s') ∧ l.length = 6 ∧ s ≤ s' ∧ s' ≤ s + 100 ∧ 5 ≤ p ∧ p ≤ 31 := by
  obtain ⟨v, hv, hc⟩ := qic b hb s h0 (by omega)
  obtain ⟨q, m, s', he, hq, hm, g1, g2⟩ := qit b hb v (by omega) [⟨⟨1, 0, 0⟩⟩, ⟨⟨0, 1, 0⟩⟩, ⟨⟨0, 0, 1⟩⟩, ⟨⟨1, 1, 1⟩⟩] rfl 12 0 (s + 1) (by omega) (by omega) (by omega)
  unfold zn.f
  exact ⟨q, m, s', Ev.bind hv he, hm, by omega, by omega, by omega, by omega⟩
end Go.Proofs.Ytmgbpmihbljngaa.PA
namespace Go.Proofs.Ytmgbpmihbljngaa.PA
open Go.RowKit Go.Proofs.YtmgbpmihbljngaaW.PrintWords Go.Proofs.YtmgbpmihbljngaaW.PrintLast Go.Proofs.YtmgbpmihbljngaaW.PrintMore
set_option linter.unusedVariables false
set_option linter.unusedSimpArgs false
theorem qcy (l : List Int) (h : ∀ x ∈ l, (Lit.int .u8 x).wf = true) : ∃ p six x y z, Ev (fun k => qx.f k l) (p, six, x, y, z) := by
  obtain ⟨b, hb, hok⟩ := qmt l h
  obtain ⟨p, six, s, he, hl, g1, g2, g3, g4⟩ := ql3 b hok 0 (by omega) (by omega)
  obtain ⟨v, hv, _, _⟩ := Jd b hok s 8 (by omega) (by omega)
  unfold qx.f
  by_cases e : v = 0
  · obtain ⟨u, hu, u0, u1⟩ := Jd b hok (s + 1) 6 (by omega) (by omega)
    have := u1 (by omega)
    exact ⟨p, six, _, _, _, Ev.bind (Ev.k hb) (Ev.bind he (Ev.bind hv (Ev.yes e (Ev.bind hu (Ev.yes u0 (Ev.yes (show u < (six.length : Int) by omega) (Ev.now _)))))))⟩
  · obtain ⟨x, y, z, s2, hx, _, _⟩ := qbj b hok p (s + 1) (by omega) (by omega) (by omega)
    exact ⟨p, six, x, y, z, Ev.bind (Ev.k hb) (Ev.bind he (Ev.bind hv (Ev.no e (Ev.bind hx (Ev.now _)))))⟩
end Go.Proofs.Ytmgbpmihbljngaa.PA
namespace Go.Proofs.Ytmgbpmihbljngaa.PA
open Go.RowKit Go.Proofs.YtmgbpmihbljngaaW.PrintWords Go.Proofs.YtmgbpmihbljngaaW.PrintLast Go.Proofs.YtmgbpmihbljngaaW.PrintMore
set_option linter.unusedVariables false
set_option linter.unusedSimpArgs false
theorem qfm (a b : List Int) (hab : a.length = b.length) (hl : a.length ≤ 1000000000) : ∀ (d : Nat) (i : Nat), i + d = a.length → Ev (fun k => q9.l0 k a b (i : Int)) (decide (a.drop i = b.drop i))
  | 0, i, h => by
    refine Ev.step (f := fun _ => some true) (fun k => ?_) ?_
    · rw [q9.l0, if_neg (by omega)]
    · rw [List.drop_eq_nil_of_le (by omega), List.drop_eq_nil_of_le (by omega)]; exact Ev.now _
  | d + 1, i, h => by
    have ih := qfm a b hab hl d (i + 1) (by omega)
    rw [qc6 a i (by omega), qc6 b i (by omega)]
    by_cases hr : rd a (i : Int) = rd b (i : Int)
    · refine Ev.step (f := fun k => q9.l0 k a b ((i + 1 : Nat) : Int)) (fun k => ?_) ?_
      · rw [q9.l0, if_pos (by omega), if_pos (by omega), if_pos (by omega), if_pos hr, wsm (by omega) (by omega)]
        simp
      · simpa [hr] using ih
    · refine Ev.step (f := fun _ => some false) (fun k => ?_) ?_
      · rw [q9.l0, if_pos (by omega), if_pos (by omega), if_pos (by omega), if_neg hr]
      · simpa [hr] using Ev.now false
theorem qdz (a b : List Int) (hl : a.length ≤ 1000000000) : Ev (fun k => q9.f k a b) (decide (a = b)) := by
  unfold q9.f
  refine Ev.ite (fun h => ?_) (fun h => ?_)
  · simpa using qfm a b (by omega) hl a.length 0 (by omega)
  · rw [decide_eq_false (fun e => h (by rw [e]))]; exact Ev.now _
end Go.Proofs.Ytmgbpmihbljngaa.PA
namespace Go.Proofs.Ytmgbpmihbljngaa.PA
open Go.RowKit Go.Proofs.YtmgbpmihbljngaaW.PrintWords Go.Proofs.YtmgbpmihbljngaaW.PrintLast Go.Proofs.YtmgbpmihbljngaaW.PrintMore
set_option linter.unusedVariables false
set_option linter.unusedSimpArgs false
end Go.Proofs.Ytmgbpmihbljngaa.PA
namespace Go.Proofs.Ytmgbpmihbljngaa.PA
open Go.RowKit Go.Proofs.YtmgbpmihbljngaaW.PrintWords Go.Proofs.YtmgbpmihbljngaaW.PrintLast Go.Proofs.YtmgbpmihbljngaaW.PrintMore
set_option linter.unusedVariables false
set_option linter.unusedSimpArgs false
theorem qfi : ∀ (l : List Int) (h : Nat), h < l.length → fn l h = 1 → (∀ j, j < h → fn l j = 0) → qcj l = true
  | [], _, h, _, _ => absurd h (by simp)
  | x :: l, 0, _, h1, _ => by
    have : x = 1 := by simpa [fn, rd] using h1
    subst this; rfl
  | x :: l, h + 1, hl, h1, hz => by
    have e : ∀ j : Nat, fn (x :: l) (j + 1) = fn l j := fun j => by simp [fn, rd]
    have hx : x = 0 := by simpa [fn, rd] using hz 0 (by omega)
    have ih := qfi l h (by simpa using hl) (by rw [← e]; exact h1) (fun j hj => by rw [← e]; exact hz (j + 1) (by omega))
    subst hx
    simpa [qcj] using ih
end Go.Proofs.Ytmgbpmihbljngaa.PA
namespace Go.Proofs.Ytmgbpmihbljngaa.PA
open Go.RowKit Go.Proofs.YtmgbpmihbljngaaW.PrintWords Go.Proofs.YtmgbpmihbljngaaW.PrintLast Go.Proofs.YtmgbpmihbljngaaW.PrintMore
set_option linter.unusedVariables false
set_option linter.unusedSimpArgs false
theorem qiv : ∀ (l : List Int), ¬ (l.all fun x => x == 0) = true → ∃ c, c < l.length ∧ fn l c ≠ 0 ∧ ∀ j, j < c → fn l j = 0
  | [], h => absurd rfl h
  | x :: l, h => by
    have e : ∀ j : Nat, fn (x :: l) (j + 1) = fn l j := fun j => by simp [fn, rd]
    by_cases hx : x = 0
    · obtain ⟨c, h1, h2, h3⟩ := qiv l (fun h2 => h (by simp [hx]; simpa using h2))
      refine ⟨c + 1, by simpa using h1, by rw [e]; exact h2, fun j hj => ?_⟩
      cases j with
      | zero => simpa [fn, rd] using hx
      | succ j => rw [e]; exact h3 j (by omega)
    · exact ⟨0, by simp, by simpa [fn, rd] using hx, fun j hj => absurd hj (by omega)⟩
theorem qjc {p : Int} (hp : zh p = true) {w : Nat} {a : List Int} (ha : a.length = w ∧ ∀ x ∈ a, 0 ≤ x ∧ x < p) (hz : ¬ (a.all fun x => x == 0) = true) :
    Jp p (rowP p a) w = true ∧ qcj (rowP p a) = true ∧ ∀ L, Sp p w L (fn a) → Sp p w L (fn (rowP p a)) := by
  have hb := z5 hp
  obtain ⟨c, h1, h2, h3⟩ := qiv a hz
  have hrow := qho (p := p) h1 h3 h2
  have hc := Zc ha c (by omega)
  obtain ⟨_, i0, i1, i2, _⟩ := Q7 hp hc.1 hc.2
  have hs := qbh (p := p) (b := invP p (rd a (c : Int))) (by omega) ha.1
  have hf : ∀ j, j < w → fn (rowP p a) j = fn a j * invP p (fn a c) % p := fun j hj => by rw [hrow]; exact qip ha.1 hj
  rw [hrow] at hf ⊢
  refine ⟨qdd hp hs.1 hs.2, qfi _ c (by rw [hs.1]; omega) (by rw [hf c (by omega)]; exact i2 h2) (fun j hj => by rw [hf j (by omega), h3 j hj]; simp), fun L hL => ?_⟩
  refine (hL.scale (invP p (fn a c))).congr fun j hj => ?_
  rw [hf j hj]
  exact Zh (-1) (Jf (fn a j * invP p (fn a c)) p) (by rw [Int.mul_comm (invP p (fn a c))]; omega)
end Go.Proofs.Ytmgbpmihbljngaa.PA
namespace Go.Proofs.Ytmgbpmihbljngaa.PA
open Go.RowKit Go.Proofs.YtmgbpmihbljngaaW.PrintWords Go.Proofs.YtmgbpmihbljngaaW.PrintLast Go.Proofs.YtmgbpmihbljngaaW.PrintMore
set_option linter.unusedVariables false
set_option linter.unusedSimpArgs false
theorem qox {p : Int} (a b u : Int) : p ∣ a * (b * u % p) - b * (a * u % p) := by
  rw [Int.emod_def, Int.emod_def]
  exact ⟨b * (a * u / p) - a * (b * u / p), by grind⟩
theorem qfp (l : List Int) (h : ∀ x ∈ l, (Lit.int .u8 x).wf = true) : Ev (fun k => laws_FnImage.f k l) true := by
  obtain ⟨p, six, x, y, z, hd⟩ := qcy l h
  have h1 := qfz p six (x, y, z)
  have h2 := qe7 p six (x, y, z)
  unfold laws_FnImage.f
  refine Ev.ite (fun _ => Ev.now _) (fun _ => Ev.bind hd (Ev.bind h1 (Ev.bind h2 (Ev.no (by simp) ?_))))
  have hlen : (Zr p (tps six) (x, y, z)).1.length ≤ 1000 := by
    by_cases hc : (genB p (tps six) = true ∧ ptB p (x, y, z).1 (x, y, z).2.1 (x, y, z).2.2 = true) ∧ (imgP p (tps six) (x, y, z)).all (fun x => x == 0) = false
    · obtain ⟨hp, h6, _, _⟩ := Qk hc.1.1
      have hl := Jx hp h6 (Z9 hc.1.1)
      rw [Zr, if_pos hc]
      simp only [rowP, imgP, List.length_map]
      omega
    · rw [Zr, if_neg hc]; simp
  refine Ev.bind (qdz _ _ (by omega)) ?_
  rw [decide_eq_true rfl]
  refine Ev.yes rfl ?_
  by_cases hc : (genB p (tps six) = true ∧ ptB p (x, y, z).1 (x, y, z).2.1 (x, y, z).2.2 = true) ∧ (imgP p (tps six) (x, y, z)).all (fun x => x == 0) = false
  rotate_left
  · rw [Zr, if_neg hc]
    refine Ev.step (fun q => by rw [laws_FnImage.j0, if_pos (by simp), if_pos (by simp)]) ?_
    refine Ev.bind (qdz _ _ (by simp)) ?_
    rw [decide_eq_true rfl]
    exact Ev.now _
  obtain ⟨⟨hg, hpt⟩, hz⟩ := hc
  have e : Zr p (tps six) (x, y, z) = (rowP p (imgP p (tps six) (x, y, z)), true) := by rw [Zr, if_pos ⟨⟨hg, hpt⟩, hz⟩]
  rw [e]
  obtain ⟨hp, h6, ha, _⟩ := Qk hg
  have hb := z5 hp
  have hl := Jx hp h6 (Z9 hg)
  have hml : (imgP p (tps six) (x, y, z)).length = 4 := by rw [imgP, List.length_map, hl]
  have hrg := qbz hp (tps six) (x, y, z)
  obtain ⟨f1, f2, _⟩ := qjc hp (w := 4) ⟨hml, hrg⟩ (by rw [hz]; simp)
  have hpl : qcs p (rowP p (imgP p (tps six) (x, y, z))) = true := by rw [qcs, f1, f2]; rfl
  have hon := img_on hg (x, y, z) (invP p (qbf (imgP p (tps six) (x, y, z))))
  have hsf := qez p six (rowP p (imgP p (tps six) (x, y, z)))
  have hhas : hasP p (tps six) (rowP p (imgP p (tps six) (x, y, z))) = true := by
    rw [hasP, hg, hpl, Bool.true_and, Bool.true_and, beq_iff_eq]
    exact hon
  rw [hhas] at hsf
  have hval : ∀ i : Nat, i < 4 → Ev (fun k => qz.f k p (jl (basP p (tps six)) (i : Int)) x y z) (fn (imgP p (tps six) (x, y, z)) i, true) := fun i hi => by
    have hv := qf7 hp ((basP p (tps six)).getD i []) (qdf (Q := tps six) hp i (by omega)) (x, y, z) hpt
    have e2 : fn (imgP p (tps six) (x, y, z)) i = dotP p ((basP p (tps six)).getD i []) (cubR p (x, y, z)) := by
      simp [fn, rd, imgP, List.getD_eq_getElem?_getD, show i < (basP p (tps six)).length by omega]
    rw [qbk, e2]
    exact hv
  have hrow : ∀ i : Nat, i < 4 → rd (rowP p (imgP p (tps six) (x, y, z))) (i : Int) = fn (imgP p (tps six) (x, y, z)) i * invP p (qbf (imgP p (tps six) (x, y, z))) % p := fun i hi => by
    simp [fn, rd, rowP, List.getD_eq_getElem?_getD, show i < (imgP p (tps six) (x, y, z)).length by omega]
  have hm : ∀ i : Nat, i < 4 → 0 ≤ fn (imgP p (tps six) (x, y, z)) i ∧ fn (imgP p (tps six) (x, y, z)) i < p := fun i hi => Zc ⟨hml, hrg⟩ i hi
  have hol : (rowP p (imgP p (tps six) (x, y, z))).length = 4 := by rw [rowP, List.length_map, hml]
  have hbase := qg6 six hg
  generalize invP p (qbf (imgP p (tps six) (x, y, z))) = u at *
  generalize rowP p (imgP p (tps six) (x, y, z)) = O at *
  generalize imgP p (tps six) (x, y, z) = M at *
  generalize basP p (tps six) = B at *
  refine Ev.step (fun q => by rw [laws_FnImage.j0, if_neg (by simp)]) (Ev.bind hbase ?_)
  have hl1 : ∀ (i : Nat), i < 4 → Ev (fun k => laws_FnImage.l0 k p six O B true ((i + 1 : Nat) : Int) x y z) true → ∀ (d k : Nat), k + d = 4 → Ev (fun q => laws_FnImage.l1 q p six O B true (i : Int) (k : Int) x y z) true := by
    intro i hi hend d
    induction d with
    | zero =>
      intro k hk
      refine Ev.step (fun q => by rw [laws_FnImage.l1, if_neg (by omega), wsm (by omega) (by omega)]) ?_
      exact hend
    | succ d ih =>
      intro k hk
      refine Ev.step (fun q => by rw [laws_FnImage.l1, if_pos (by omega), if_pos (by omega), if_pos (by omega)]) ?_
      refine Ev.bind (hval i hi) (Ev.yes (show (0 : Int) ≤ (k : Int) by omega) (Ev.yes (show (k : Int) < (B.length : Int) by omega) (Ev.bind (hval k (by omega)) (Ev.yes rfl (Ev.yes rfl (Ev.yes (show (k : Int) < (O.length : Int) by omega) (Ev.yes (show (i : Int) < (O.length : Int) by omega) (Ev.no (show ¬ p = 0 by omega) ?_))))))))
      have m1 := hm i hi
      have m2 := hm k (by omega)
      have o1 : 0 ≤ fn M i * u % p ∧ fn M i * u % p < p := ⟨Int.emod_nonneg _ (by omega), Int.emod_lt_of_pos _ (by omega)⟩
      have o2 : 0 ≤ fn M k * u % p ∧ fn M k * u % p < p := ⟨Int.emod_nonneg _ (by omega), Int.emod_lt_of_pos _ (by omega)⟩
      have q1 := j7 (p := p) ⟨by omega, by omega⟩ m1 o2
      have q2 := j7 (p := p) ⟨by omega, by omega⟩ m2 o1
      have hzero : Int.tmod (wrap64 (wrap64 (fn M i * rd O (k : Int)) - wrap64 (fn M k * rd O (i : Int)))) p = 0 := by
        rw [hrow i hi, hrow k (by omega), wsm (i := fn M i * _) (by omega) (by omega), wsm (i := fn M k * _) (by omega) (by omega), wsm (by omega) (by omega)]
        exact Int.tmod_eq_zero_of_dvd (qox _ _ _)
      refine Ev.yes hzero ?_
      rw [wsm (by omega) (by omega)]
      exact ih (k + 1) (by omega)
  have hl0 : ∀ (d i : Nat), i + d = 4 → Ev (fun q => laws_FnImage.l0 q p six O B true (i : Int) x y z) true := by
    intro d
    induction d with
    | zero =>
      intro i hi
      refine Ev.step (fun q => by rw [laws_FnImage.l0, if_neg (by omega)]) ?_
      refine Ev.step (fun q => by rw [laws_FnImage.j2, if_neg (by simp), if_pos rfl, Je.f, qfo, hpl, Option.bind_some, Option.bind_some, if_pos rfl]) ?_
      exact Ev.bind hsf (Ev.now _)
    | succ d ih =>
      intro i hi
      refine Ev.step (fun q => by rw [laws_FnImage.l0, if_pos (by omega)]) ?_
      refine Ev.step (fun q => by rw [laws_FnImage.j2, if_pos rfl]) ?_
      exact hl1 i (by omega) (ih (i + 1) (by omega)) 4 0 rfl
  exact hl0 4 0 rfl
end Go.Proofs.Ytmgbpmihbljngaa.PA
namespace Go.Proofs.Ytmgbpmihbljngaa.Pure
open Go.RowKit Go.Proofs.Ytmgbpmihbljngaa.PA Go.Proofs.YtmgbpmihbljngaaW.PrintWords Go.Proofs.YtmgbpmihbljngaaW.PrintLast
theorem FnImage : laws_FnImage.Pure := by
  intro l
  intros
  first | exact (qfp l).rounds | exact (qfp l (by assumption)).rounds
end Go.Proofs.Ytmgbpmihbljngaa.Pure
