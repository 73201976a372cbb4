/- For every whole number p, every list of points and every list of numbers the program's SurfaceHas returns what the reference's returns and leaves its arguments as they were. No conditions. -/
import Derived.Test.YtmgbpmihbljngaaWMore
import Derived.Test.YtmgbpmihbljngaaPAx11
import Derived.Test.YtmgbpmihbljngaaPAx3
import Derived.Test.YtmgbpmihbljngaaPAx8
import Derived.Test.YtmgbpmihbljngaaPAx0
import Derived.Test.YtmgbpmihbljngaaPAx12
import Derived.Test.YtmgbpmihbljngaaPAx15
import Derived.Test.YtmgbpmihbljngaaPAx16
import Derived.Test.YtmgbpmihbljngaaPAx13
import Derived.Test.YtmgbpmihbljngaaPAx14
import Derived.Test.YtmgbpmihbljngaaPAx17
import Derived.Test.YtmgbpmihbljngaaPAx18
import Derived.Test.YtmgbpmihbljngaaPAx19
import Derived.Test.YtmgbpmihbljngaaPAx20
import Derived.Test.YtmgbpmihbljngaaPAx21
import Derived.Test.YtmgbpmihbljngaaPAx2
import Derived.Test.YtmgbpmihbljngaaPAx4
import Derived.Test.YtmgbpmihbljngaaPAx5
import Derived.Test.YtmgbpmihbljngaaPAx6
import Derived.Test.YtmgbpmihbljngaaPAx7
import Derived.KernelRfl
import Derived.Test.YtmgbpmihbljngaaPAx10
import Derived.Test.YtmgbpmihbljngaaPAx9
import Derived.Test.YtmgbpmihbljngaaPAx22
import Derived.Test.YtmgbpmihbljngaaPAx1
namespace Go.Proofs.Ytmgbpmihbljngaa.PA
open Go.RowKit Go.Proofs.YtmgbpmihbljngaaW.PrintWords Go.Proofs.YtmgbpmihbljngaaW.PrintLast Go.Proofs.YtmgbpmihbljngaaW.PrintMore
set_option linter.unusedVariables false
set_option linter.unusedSimpArgs false

theorem wsm {i : Int} (h0 : -1000000000000000000 ≤ i) (h : i ≤ 1000000000000000000) : wrap64 i = i := by unfold wrap64; omega
theorem Ev.k {α : Type} {x : Option α} {r : α} (h : x = some r) : Ev (fun _ => x) r := ⟨0, fun _ _ => h⟩
theorem Ev.ite {α : Type} {c : Prop} [Decidable c] {g f : Nat → Option α} {r : α} (h1 : c → Ev g r) (h2 : ¬ c → Ev f r) : Ev (fun k => if c then g k else f k) r := by
  by_cases h : c
  · exact (h1 h).congr (fun k => if_pos h)
  · exact (h2 h).congr (fun k => if_neg h)
theorem Ev.yes {α : Type} {c : Prop} [Decidable c] {g f : Nat → Option α} {r : α} (h : c) (h1 : Ev g r) : Ev (fun k => if c then g k else f k) r := h1.congr (fun k => if_pos h)
theorem Ev.no {α : Type} {c : Prop} [Decidable c] {g f : Nat → Option α} {r : α} (h : ¬ c) (h1 : Ev f r) : Ev (fun k => if c then g k else f k) r := h1.congr (fun k => if_neg h)
theorem rd_at (l : List Int) (j : Nat) (h : j < l.length) : rd l (j : Int) = l[j] := by simp [rd, List.getD_eq_getElem?_getD, h]
theorem rd_drop (l : List Int) (j : Nat) (h : j < l.length) : l.drop j = rd l (j : Int) :: l.drop (j + 1) := by rw [rd_at l j h, List.drop_eq_getElem_cons h]

end Go.Proofs.Ytmgbpmihbljngaa.PA
namespace Go.Proofs.Ytmgbpmihbljngaa.PA
open Go.RowKit Go.Proofs.YtmgbpmihbljngaaW.PrintWords Go.Proofs.YtmgbpmihbljngaaW.PrintLast Go.Proofs.YtmgbpmihbljngaaW.PrintMore
set_option linter.unusedVariables false
set_option linter.unusedSimpArgs false

theorem PrimeIn_eq (p : Int) : spec_PrimeIn.f p = some (primeB p) := by
  unfold spec_PrimeIn.f primeB
  repeat' split
  all_goals first | (subst_vars; rfl) | (congr 1; symm; rw [decide_eq_true_iff]; omega) | (congr 1; symm; rw [decide_eq_false_iff_not]; omega)
theorem primeB_cases {p : Int} (h : primeB p = true) : p = 7 ∨ p = 11 ∨ p = 13 ∨ p = 17 ∨ p = 19 ∨ p = 23 ∨ p = 29 ∨ p = 31 := of_decide_eq_true h
/-- n numbers modulo a prime -/
def numsB (p : Int) (l : List Int) (n : Nat) : Bool := primeB p && decide (l.length = n) && l.all fun x => decide (0 ≤ x) && decide (x < p)
theorem areNumbers_eq (p : Int) (l : List Int) (n : Nat) : impl_areNumbers.f p l (n : Int) = some (numsB p l n) := by
  unfold impl_areNumbers.f numsB
  congr 3
  rw [Bool.eq_iff_iff, decide_eq_true_iff, decide_eq_true_iff]
  omega
theorem numsB_prime {p : Int} {l : List Int} {n : Nat} (h : numsB p l n = true) : primeB p = true ∧ l.length = n ∧ ∀ x ∈ l, 0 ≤ x ∧ x < p := by
  unfold numsB at h
  rw [Bool.and_eq_true, Bool.and_eq_true] at h
  refine ⟨h.1.1, of_decide_eq_true h.1.2, fun x hx => ?_⟩
  have := List.all_eq_true.1 h.2 x hx
  rw [Bool.and_eq_true] at this
  exact ⟨of_decide_eq_true this.1, of_decide_eq_true this.2⟩
theorem numsB_mk {p : Int} {l : List Int} {n : Nat} (h1 : primeB p = true) (h2 : l.length = n) (h3 : ∀ x ∈ l, 0 ≤ x ∧ x < p) : numsB p l n = true := by
  unfold numsB
  rw [h1, decide_eq_true h2, Bool.true_and, Bool.true_and, List.all_eq_true]
  intro x hx
  rw [decide_eq_true (h3 x hx).1, decide_eq_true (h3 x hx).2]; rfl
theorem prime_bd {p : Int} (h : primeB p = true) : 7 ≤ p ∧ p ≤ 31 := by have := primeB_cases h; omega
end Go.Proofs.Ytmgbpmihbljngaa.PA
namespace Go.Proofs.Ytmgbpmihbljngaa.PA
open Go.RowKit Go.Proofs.YtmgbpmihbljngaaW.PrintWords Go.Proofs.YtmgbpmihbljngaaW.PrintLast Go.Proofs.YtmgbpmihbljngaaW.PrintMore
set_option linter.unusedVariables false
set_option linter.unusedSimpArgs false

/-- a row's number at a place -/
def fn (r : List Int) (j : Nat) : Int := rd r (j : Int)
theorem dvd_lin {p x y c : Int} (a b : Int) (hx : p ∣ x) (hy : p ∣ y) (h : c = a * x + b * y) : p ∣ c := by
  rw [h]; exact Int.dvd_add (Int.dvd_mul_of_dvd_right hx) (Int.dvd_mul_of_dvd_right hy)
theorem dvd_one {p x c : Int} (a : Int) (hx : p ∣ x) (h : c = a * x) : p ∣ c := by
  rw [h]; exact Int.dvd_mul_of_dvd_right hx
/-- v is a combination of the rows of L, modulo p, at the places below w -/
inductive Sp (p : Int) (w : Nat) (L : List (List Int)) : (Nat → Int) → Prop where
  | zero (v : Nat → Int) : (∀ j, j < w → p ∣ v j) → Sp p w L v
  | add (v u : Nat → Int) (r : List Int) (t : Int) : r ∈ L → Sp p w L u → (∀ j, j < w → p ∣ v j - (u j + t * fn r j)) → Sp p w L v
theorem Sp.congr {p : Int} {w : Nat} {L : List (List Int)} {u v : Nat → Int} (h : Sp p w L u) (he : ∀ j, j < w → p ∣ v j - u j) : Sp p w L v := by
  cases h with
  | zero _ hz => exact .zero v fun j hj => dvd_lin 1 1 (he j hj) (hz j hj) (by omega)
  | add _ u' r t hr hu h2 => exact .add v u' r t hr hu fun j hj => dvd_lin 1 1 (he j hj) (h2 j hj) (by omega)
theorem Sp.sum {p : Int} {w : Nat} {L : List (List Int)} {u v : Nat → Int} (hu : Sp p w L u) (hv : Sp p w L v) : Sp p w L fun j => u j + v j := by
  induction hv with
  | zero v hz => exact hu.congr fun j hj => dvd_one 1 (hz j hj) (by omega)
  | add v u' r t hr _ h2 ih => exact .add _ _ r t hr ih fun j hj => dvd_one 1 (h2 j hj) (by omega)
theorem Sp.scale {p : Int} {w : Nat} {L : List (List Int)} {v : Nat → Int} (s : Int) (hv : Sp p w L v) : Sp p w L fun j => s * v j := by
  induction hv with
  | zero v hz => exact .zero _ fun j hj => dvd_one s (hz j hj) rfl
  | add v u r t hr _ h2 ih => exact .add _ _ r (s * t) hr ih fun j hj => dvd_one s (h2 j hj) (by rw [Int.mul_sub, Int.mul_add, Int.mul_assoc])
theorem Sp.mem {p : Int} {w : Nat} {L : List (List Int)} {r : List Int} (hr : r ∈ L) : Sp p w L (fn r) :=
  .add _ (fun _ => 0) r 1 hr (.zero _ fun _ _ => Int.dvd_zero p) fun j _ => by simp
theorem Sp.sub {p : Int} {w : Nat} {L M : List (List Int)} (h : ∀ r ∈ L, Sp p w M (fn r)) {v : Nat → Int} (hv : Sp p w L v) : Sp p w M v := by
  induction hv with
  | zero v hz => exact .zero v hz
  | add v u r t hr _ h2 ih => exact (ih.sum ((h r hr).scale t)).congr h2
/-- reduced rows with their columns -/
structure Rref (p : Int) (w : Nat) (P : List (Nat × List Int)) : Prop where
  lt : ∀ x ∈ P, x.1 < w
  ok : ∀ x ∈ P, x.2.length = w ∧ ∀ y ∈ x.2, 0 ≤ y ∧ y < p
  one : ∀ x ∈ P, fn x.2 x.1 = 1
  low : ∀ x ∈ P, ∀ j, j < x.1 → fn x.2 j = 0
  off : ∀ x ∈ P, ∀ y ∈ P, x.1 ≠ y.1 → fn x.2 y.1 = 0
  inc : P.Pairwise fun x y => x.1 < y.1
def cs (P : List (Nat × List Int)) (v : Nat → Int) (j : Nat) : Int := (P.map fun x => v x.1 * fn x.2 j).sum
theorem sum_dvd {p : Int} : ∀ (l : List Int), (∀ x ∈ l, p ∣ x) → p ∣ l.sum
  | [], _ => by simp
  | x :: l, h => by
    rw [List.sum_cons]
    exact Int.dvd_add (h x (by simp)) (sum_dvd l fun y hy => h y (by simp [hy]))
theorem cs_zero {p : Int} {P : List (Nat × List Int)} {v : Nat → Int} {j : Nat} (h : ∀ x ∈ P, p ∣ v x.1 * fn x.2 j) : p ∣ cs P v j := by
  refine sum_dvd _ fun y hy => ?_
  obtain ⟨x, hx, rfl⟩ := List.mem_map.1 hy
  exact h x hx
theorem cs_lin : ∀ (P : List (Nat × List Int)) (u v : Nat → Int) (t : Int) (j : Nat), cs P (fun i => u i + t * v i) j = cs P u j + t * cs P v j
  | [], _, _, _, _ => by simp [cs]
  | x :: P, u, v, t, j => by
    have ih := cs_lin P u v t j
    simp only [cs, List.map_cons, List.sum_cons] at ih ⊢
    rw [ih]
    grind
theorem cs_cong {p : Int} {w : Nat} {P : List (Nat × List Int)} (hlt : ∀ x ∈ P, x.1 < w) {u v : Nat → Int} (h : ∀ j, j < w → p ∣ v j - u j) (j : Nat) : p ∣ cs P v j - cs P u j := by
  have e : cs P v j - cs P u j = cs P (fun i => v i + (-1) * u i) j := by rw [cs_lin]; omega
  rw [e]
  exact cs_zero fun x hx => dvd_one (fn x.2 j) (h x.1 (hlt x hx)) (by rw [Int.mul_comm]; congr 1; omega)
/-- a sum with one term -/
theorem sum_one {α : Type} (f : α → Int) (x : α) (A B : List α) (ha : ∀ y ∈ A, f y = 0) (hb : ∀ y ∈ B, f y = 0) : ((A ++ x :: B).map f).sum = f x := by
  have hz : ∀ C : List α, (∀ y ∈ C, f y = 0) → (C.map f).sum = 0 := by
    intro C
    induction C with
    | nil => intro _; rfl
    | cons y C ih => intro h; rw [List.map_cons, List.sum_cons, h y (by simp), ih fun z hz => h z (by simp [hz])]; rfl
  rw [List.map_append, List.sum_append, List.map_cons, List.sum_cons, hz A ha, hz B hb]; omega
theorem split_inc {P : List (Nat × List Int)} (hi : P.Pairwise fun x y => x.1 < y.1) {x : Nat × List Int} (hx : x ∈ P) : ∃ A B, P = A ++ x :: B ∧ (∀ y ∈ A, y.1 ≠ x.1) ∧ ∀ y ∈ B, y.1 ≠ x.1 := by
  obtain ⟨A, B, rfl⟩ := List.append_of_mem hx
  rw [List.pairwise_append, List.pairwise_cons] at hi
  exact ⟨A, B, rfl, fun y hy => Nat.ne_of_lt (hi.2.2 y hy x (by simp)), fun y hy => Nat.ne_of_gt (hi.2.1.1 y hy)⟩
theorem Rref.cs_row {p : Int} {w : Nat} {P : List (Nat × List Int)} (h : Rref p w P) {x : Nat × List Int} (hx : x ∈ P) (j : Nat) : cs P (fn x.2) j = fn x.2 j := by
  obtain ⟨A, B, e, ha, hb⟩ := split_inc h.inc hx
  have h1 : ∀ y, y ∈ P → y.1 ≠ x.1 → fn x.2 y.1 * fn y.2 j = 0 := fun y hy hn => by rw [h.off x hx y hy (Ne.symm hn), Int.zero_mul]
  rw [cs]
  conv => lhs; rw [e]
  rw [sum_one _ x A B (fun y hy => h1 y (by rw [e]; simp [hy]) (ha y hy)) (fun y hy => h1 y (by rw [e]; simp [hy]) (hb y hy)), h.one x hx, Int.one_mul]
/-- what lies in the rows' span is told by its numbers at their columns -/
theorem Rref.coord {p : Int} {w : Nat} {P : List (Nat × List Int)} (h : Rref p w P) {v : Nat → Int} (hv : Sp p w (P.map Prod.snd) v) : ∀ j, j < w → p ∣ v j - cs P v j := by
  induction hv with
  | zero v hz => exact fun j hj => dvd_lin 1 (-1) (hz j hj) (cs_zero (P := P) (j := j) fun x hx => dvd_one (fn x.2 j) (hz x.1 (h.lt x hx)) (Int.mul_comm _ _)) (by omega)
  | add v u r t hr _ h2 ih =>
    intro j hj
    obtain ⟨x, hx, rfl⟩ := List.mem_map.1 hr
    have h3 := cs_cong h.lt h2 j
    rw [cs_lin, h.cs_row hx] at h3
    have h4 := h2 j hj
    have h5 := ih j hj
    exact dvd_lin 1 1 (dvd_lin 1 (-1) h4 h3 rfl) h5 (by omega)
theorem Rref.lead {p : Int} {w : Nat} {P : List (Nat × List Int)} (h : Rref p w P) {v : Nat → Int} (hv : Sp p w (P.map Prod.snd) v) {j : Nat} (hj : j < w) (hz : ∀ i, i < j → p ∣ v i) (hn : ¬ p ∣ v j) : ∃ x ∈ P, x.1 = j := by
  by_cases hex : ∃ x ∈ P, x.1 = j
  · exact hex
  · exfalso
    have h1 := h.coord hv j hj
    refine hn (dvd_lin 1 1 h1 (cs_zero (P := P) (v := v) (j := j) fun x hx => ?_) (by omega))
    have hne : x.1 ≠ j := fun e => hex ⟨x, hx, e⟩
    by_cases hlt : x.1 < j
    · exact dvd_one (fn x.2 j) (hz x.1 hlt) (Int.mul_comm _ _)
    · rw [h.low x hx j (by omega), Int.mul_zero]; exact Int.dvd_zero p
theorem sorted_eq {α : Type} {key : α → Nat} : ∀ {P Q : List α}, P.Pairwise (fun x y => key x < key y) → Q.Pairwise (fun x y => key x < key y) → (∀ x, x ∈ P ↔ x ∈ Q) → P = Q
  | [], [], _, _, _ => rfl
  | [], y :: Q, _, _, h => absurd ((h y).2 (by simp)) (by simp)
  | x :: P, [], _, _, h => absurd ((h x).1 (by simp)) (by simp)
  | x :: P, y :: Q, hp, hq, h => by
    rw [List.pairwise_cons] at hp hq
    have e : x = y := by
      rcases List.mem_cons.1 ((h x).1 (by simp)) with e | hx
      · exact e
      · rcases List.mem_cons.1 ((h y).2 (by simp)) with e | hy
        · exact e.symm
        · have := hq.1 x hx; have := hp.1 y hy; omega
    subst e
    rw [sorted_eq hp.2 hq.2 fun z => ?_]
    constructor
    · intro hz
      rcases List.mem_cons.1 ((h z).1 (by simp [hz])) with e | hz'
      · subst e; have := hp.1 z hz; omega
      · exact hz'
    · intro hz
      rcases List.mem_cons.1 ((h z).2 (by simp [hz])) with e | hz'
      · subst e; have := hq.1 z hz; omega
      · exact hz'
theorem not_dvd_one {p : Int} (hp : 2 ≤ p) : ¬ p ∣ 1 := fun h => by
  have := Int.le_of_dvd (by omega) h; omega
theorem eq_of_cong {p a b : Int} (ha : 0 ≤ a ∧ a < p) (hb : 0 ≤ b ∧ b < p) (h : p ∣ a - b) : a = b := by
  obtain ⟨k, hk⟩ := h
  have : k = 0 := by
    by_cases h1 : 1 ≤ k
    · have := Int.mul_le_mul_of_nonneg_left h1 (show 0 ≤ p by omega); omega
    · by_cases h2 : k ≤ -1
      · have := Int.mul_le_mul_of_nonneg_left h2 (show 0 ≤ p by omega); omega
      · omega
  subst this; omega
theorem fn_range {p : Int} {w : Nat} {r : List Int} (h : r.length = w ∧ ∀ x ∈ r, 0 ≤ x ∧ x < p) (j : Nat) (hj : j < w) : 0 ≤ fn r j ∧ fn r j < p := by
  rw [fn, rd_at r j (by omega)]; exact h.2 _ (List.getElem_mem _)
theorem fn_ext {a b : List Int} {w : Nat} (ha : a.length = w) (hb : b.length = w) (h : ∀ j, j < w → fn a j = fn b j) : a = b := by
  refine List.ext_getElem (by omega) fun j h1 h2 => ?_
  have := h j (by omega)
  rwa [fn, fn, rd_at a j h1, rd_at b j h2] at this
theorem Rref.heads {p : Int} {w : Nat} {P Q : List (Nat × List Int)} (hp : 2 ≤ p) (h : Rref p w P) (k : Rref p w Q) (hs : ∀ x ∈ P, Sp p w (Q.map Prod.snd) (fn x.2)) {x : Nat × List Int} (hx : x ∈ P) : ∃ y ∈ Q, y.1 = x.1 :=
  k.lead (hs x hx) (h.lt x hx) (fun i hi => by rw [h.low x hx i hi]; exact Int.dvd_zero p) (by rw [h.one x hx]; exact not_dvd_one hp)
/-- reduced rows are told by their span -/
theorem Rref.unique {p : Int} {w : Nat} {P Q : List (Nat × List Int)} (hp : 2 ≤ p) (h : Rref p w P) (k : Rref p w Q) (hs : ∀ x ∈ P, Sp p w (Q.map Prod.snd) (fn x.2)) (ks : ∀ x ∈ Q, Sp p w (P.map Prod.snd) (fn x.2)) : P = Q := by
  have key : ∀ {P Q : List (Nat × List Int)}, Rref p w P → Rref p w Q → (∀ x ∈ P, Sp p w (Q.map Prod.snd) (fn x.2)) → (∀ x ∈ Q, Sp p w (P.map Prod.snd) (fn x.2)) → ∀ x, x ∈ P → x ∈ Q := by
    intro P Q h k hs ks x hx
    obtain ⟨y, hy, e⟩ := h.heads hp k hs hx
    have e2 : x.2 = y.2 := by
      refine fn_ext (h.ok x hx).1 (k.ok y hy).1 fun j hj => eq_of_cong (fn_range (h.ok x hx) j hj) (fn_range (k.ok y hy) j hj) ?_
      have h1 := k.coord (hs x hx) j hj
      have h2 : cs Q (fn x.2) j = fn y.2 j := by
        obtain ⟨A, B, e3, ha, hb⟩ := split_inc k.inc hy
        have h3 : ∀ z, z ∈ Q → z.1 ≠ y.1 → fn x.2 z.1 * fn z.2 j = 0 := fun z hz hn => by
          obtain ⟨x', hx', e4⟩ := k.heads hp h ks hz
          rw [← e4, h.off x hx x' hx' (by rw [e4, ← e]; exact Ne.symm hn), Int.zero_mul]
        rw [cs]
        conv => lhs; rw [e3]
        rw [sum_one _ y A B (fun z hz => h3 z (by rw [e3]; simp [hz]) (ha z hz)) (fun z hz => h3 z (by rw [e3]; simp [hz]) (hb z hz)), e, h.one x hx, Int.one_mul]
      rwa [h2] at h1
    have : x = y := Prod.ext e.symm e2
    rwa [this]
  exact sorted_eq (key := Prod.fst) h.inc k.inc fun x => ⟨key h k hs ks x, key k h ks hs x⟩
/-- fewer columns where the span is less -/
theorem len_le_of_keys : ∀ {P Q : List (Nat × List Int)}, P.Pairwise (fun x y => x.1 < y.1) → Q.Pairwise (fun x y => x.1 < y.1) → (∀ x ∈ P, ∃ y ∈ Q, y.1 = x.1) → P.length ≤ Q.length
  | [], _, _, _, _ => by simp
  | x :: P, Q, hp, hq, h => by
    obtain ⟨y, hy, e⟩ := h x (by simp)
    obtain ⟨A, B, rfl⟩ := List.append_of_mem hy
    rw [List.pairwise_cons] at hp
    have hq' := hq
    rw [List.pairwise_append, List.pairwise_cons] at hq
    have hq2 : (A ++ B).Pairwise fun x y => x.1 < y.1 := by
      rw [List.pairwise_append]
      exact ⟨hq.1, hq.2.1.2, fun a ha b hb => hq.2.2 a ha b (by simp [hb])⟩
    have := len_le_of_keys hp.2 hq2 fun z hz => by
      obtain ⟨u, hu, e2⟩ := h z (by simp [hz])
      have hne : u.1 ≠ y.1 := by have := hp.1 z hz; omega
      refine ⟨u, ?_, e2⟩
      simp only [List.mem_append, List.mem_cons] at hu ⊢
      rcases hu with hu | rfl | hu
      · exact .inl hu
      · exact absurd rfl hne
      · exact .inr hu
    simp at this ⊢
    omega
theorem Rref.len_le {p : Int} {w : Nat} {P Q : List (Nat × List Int)} (hp : 2 ≤ p) (h : Rref p w P) (k : Rref p w Q) (hs : ∀ x ∈ P, Sp p w (Q.map Prod.snd) (fn x.2)) : P.length ≤ Q.length :=
  len_le_of_keys h.inc k.inc fun _ hx => h.heads hp k hs hx

end Go.Proofs.Ytmgbpmihbljngaa.PA
namespace Go.Proofs.Ytmgbpmihbljngaa.PA
open Go.RowKit Go.Proofs.YtmgbpmihbljngaaW.PrintWords Go.Proofs.YtmgbpmihbljngaaW.PrintLast Go.Proofs.YtmgbpmihbljngaaW.PrintMore
set_option linter.unusedVariables false
set_option linter.unusedSimpArgs false

/-- the inverse modulo a prime; 0 of 0 -/
def invP (p x : Int) : Int := (spec_l4Turned.f 40 p x).getD 0
theorem invP_table : ∀ p ∈ ([7, 11, 13, 17, 19, 23, 29, 31] : List Int), ∀ x ∈ List.range 31, (x : Int) < p → spec_l4Turned.f 40 p (x : Int) = some (invP p (x : Int)) ∧ 0 ≤ invP p (x : Int) ∧ invP p (x : Int) < p ∧ ((x : Int) ≠ 0 → ((x : Int) * invP p (x : Int)) % p = 1) ∧ ((x : Int) = 0 → invP p (x : Int) = 0) := by decide +kernel
theorem invP_spec {p : Int} (hp : primeB p = true) {x : Int} (h0 : 0 ≤ x) (h1 : x < p) : spec_l4Turned.f 40 p x = some (invP p x) ∧ 0 ≤ invP p x ∧ invP p x < p ∧ (x ≠ 0 → (x * invP p x) % p = 1) ∧ (x = 0 → invP p x = 0) := by
  obtain ⟨y, rfl⟩ := Int.eq_ofNat_of_zero_le h0
  have hb := prime_bd hp
  refine invP_table p ?_ y (List.mem_range.2 (by omega)) h1
  have := primeB_cases hp
  simpa using this
theorem turned_ev {p : Int} (hp : primeB p = true) {x : Int} (h0 : 0 ≤ x) (h1 : x < p) : Ev (fun k => spec_l4Turned.f k p x) (invP p x) := Ev.of (spec_l4Turned.mono p x) (invP_spec hp h0 h1).1
theorem invP_one {p : Int} (hp : primeB p = true) : invP p 1 = 1 := by
  have hb := prime_bd hp
  obtain ⟨_, h2, h3, h4, _⟩ := invP_spec hp (x := 1) (by omega) (by omega)
  have := h4 (by omega)
  rw [Int.one_mul, Int.emod_eq_of_lt h2 h3] at this
  exact this
theorem invP_ne {p : Int} (hp : primeB p = true) {x : Int} (h0 : 0 ≤ x) (h1 : x < p) (hx : x ≠ 0) : invP p x ≠ 0 := by
  intro e
  have := (invP_spec hp h0 h1).2.2.2.1 hx
  rw [e] at this
  simp at this

end Go.Proofs.Ytmgbpmihbljngaa.PA
namespace Go.Proofs.Ytmgbpmihbljngaa.PA
open Go.RowKit Go.Proofs.YtmgbpmihbljngaaW.PrintWords Go.Proofs.YtmgbpmihbljngaaW.PrintLast Go.Proofs.YtmgbpmihbljngaaW.PrintMore
set_option linter.unusedVariables false
set_option linter.unusedSimpArgs false

/-- a row less t times another one -/
def lessP (p t : Int) (h r : List Int) : List Int := List.zipWith (fun x y => (x - t * y) % p) r h
def scaleP (p b : Int) (r : List Int) : List Int := r.map fun x => x * b % p
/-- reduced rows: L the rows that are left, O those that are done -/
def redP (p : Int) : Nat → Nat → List (List Int) → List (List Int) → List (List Int)
  | 0, _, _, O => O
  | d + 1, c, L, O =>
    match L.findIdx? (fun row => rd row (c : Int) != 0) with
    | none => redP p d (c + 1) L O
    | some i => redP p d (c + 1) ((L.eraseIdx i).map fun r => lessP p (rd r (c : Int)) (scaleP p (invP p (rd (L.getD i []) (c : Int))) (L.getD i [])) r) ((O.map fun r => lessP p (rd r (c : Int)) (scaleP p (invP p (rd (L.getD i []) (c : Int))) (L.getD i [])) r) ++ [scaleP p (invP p (rd (L.getD i []) (c : Int))) (L.getD i [])])
/-- their columns -/
def headsP (p : Int) : Nat → Nat → List (List Int) → List Int → List Int
  | 0, _, _, H => H
  | d + 1, c, L, H =>
    match L.findIdx? (fun row => rd row (c : Int) != 0) with
    | none => headsP p d (c + 1) L H
    | some i => headsP p d (c + 1) ((L.eraseIdx i).map fun r => lessP p (rd r (c : Int)) (scaleP p (invP p (rd (L.getD i []) (c : Int))) (L.getD i [])) r) (H ++ [(c : Int)])
/-- rows of one length with numbers from 0 to p - 1 -/
def okR (p : Int) (w : Nat) (L : List (List Int)) : Prop := ∀ r ∈ L, r.length = w ∧ ∀ x ∈ r, 0 ≤ x ∧ x < p
theorem okR_nil (p : Int) (w : Nat) : okR p w [] := fun _ h => absurd h (by simp)
theorem okR_cons {p : Int} {w : Nat} {r : List Int} {L : List (List Int)} (h1 : r.length = w ∧ ∀ x ∈ r, 0 ≤ x ∧ x < p) (h2 : okR p w L) : okR p w (r :: L) := fun x hx => by
  rcases List.mem_cons.1 hx with rfl | hx
  · exact h1
  · exact h2 x hx
theorem okR_app {p : Int} {w : Nat} {L M : List (List Int)} (h1 : okR p w L) (h2 : okR p w M) : okR p w (L ++ M) := fun x hx => by
  rcases List.mem_append.1 hx with hx | hx
  · exact h1 x hx
  · exact h2 x hx
theorem less_ok {p t : Int} {w : Nat} {h r : List Int} (hp : 0 < p) (hh : h.length = w) (hr : r.length = w) : (lessP p t h r).length = w ∧ ∀ x ∈ lessP p t h r, 0 ≤ x ∧ x < p := by
  refine ⟨by simp [lessP, hh, hr], fun x hx => ?_⟩
  rw [lessP, List.mem_iff_getElem] at hx
  obtain ⟨i, hi, rfl⟩ := hx
  rw [List.getElem_zipWith]
  exact ⟨Int.emod_nonneg _ (by omega), Int.emod_lt_of_pos _ hp⟩
theorem scale_ok {p b : Int} {w : Nat} {r : List Int} (hp : 0 < p) (hr : r.length = w) : (scaleP p b r).length = w ∧ ∀ x ∈ scaleP p b r, 0 ≤ x ∧ x < p := by
  refine ⟨by simp [scaleP, hr], fun x hx => ?_⟩
  obtain ⟨y, _, rfl⟩ := List.mem_map.1 hx
  exact ⟨Int.emod_nonneg _ (by omega), Int.emod_lt_of_pos _ hp⟩
theorem mem_getD {L : List (List Int)} {i : Nat} (h : i < L.length) : L.getD i [] ∈ L := by
  rw [List.getD_eq_getElem?_getD, List.getElem?_eq_getElem h]; exact List.getElem_mem h
theorem okR_less {p : Int} {w : Nat} {L : List (List Int)} {h : List Int} (t : List Int → Int) (hp : 0 < p) (hh : h.length = w) (hL : okR p w L) : okR p w (L.map fun r => lessP p (t r) h r) := fun x hx => by
  obtain ⟨r, hr, rfl⟩ := List.mem_map.1 hx
  exact less_ok hp hh (hL r hr).1
theorem okR_erase {p : Int} {w : Nat} {L : List (List Int)} (i : Nat) (hL : okR p w L) : okR p w (L.eraseIdx i) := fun r hr => hL r (List.mem_of_mem_eraseIdx hr)
theorem find_lt {L : List (List Int)} {P : List Int → Bool} {i : Nat} (h : L.findIdx? P = some i) : i < L.length ∧ P (L.getD i []) = true := by
  rw [List.findIdx?_eq_some_iff_getElem] at h
  obtain ⟨hi, hp, _⟩ := h
  exact ⟨hi, by rw [List.getD_eq_getElem?_getD, List.getElem?_eq_getElem hi]; exact hp⟩
theorem ok_rd {p : Int} {w : Nat} {r : List Int} (h : r.length = w ∧ ∀ x ∈ r, 0 ≤ x ∧ x < p) (j : Nat) (hj : j < w) : 0 ≤ rd r (j : Int) ∧ rd r (j : Int) < p := by
  rw [rd_at r j (by omega)]; exact h.2 _ (List.getElem_mem _)
theorem rd_less {p t : Int} {h r : List Int} (j : Nat) (h1 : j < r.length) (h2 : j < h.length) : rd (lessP p t h r) (j : Int) = (rd r (j : Int) - t * rd h (j : Int)) % p := by
  rw [rd_at _ j (by simp [lessP]; omega), rd_at _ j h1, rd_at _ j h2]; simp [lessP]
theorem rd_scale {p b : Int} {r : List Int} (j : Nat) (h1 : j < r.length) : rd (scaleP p b r) (j : Int) = rd r (j : Int) * b % p := by
  rw [rd_at _ j (by simp [scaleP]; omega), rd_at _ j h1]; simp [scaleP]
/-- a number modulo p, as Go reckons it -/
def modW (p x : Int) : Int := Int.tmod (wrap64 (Int.tmod x p + p)) p
theorem tmod_bd {p : Int} (hp : 0 < p) (x : Int) : -p < Int.tmod x p ∧ Int.tmod x p < p := by
  refine ⟨?_, Int.tmod_lt_of_pos x hp⟩
  have h1 := Int.tmod_lt_of_pos (-x) hp
  rw [Int.neg_tmod] at h1
  omega
theorem tmod_emod {p : Int} (x : Int) : (Int.tmod x p + p) % p = x % p := by
  have h := Int.mul_tdiv_add_tmod x p
  have e : x = Int.tmod x p + p * x.tdiv p := by omega
  rw [Int.add_emod_right]
  conv => rhs; rw [e, Int.add_mul_emod_self_left]
theorem tmodW_small {x p : Int} (hp : 7 ≤ p ∧ p ≤ 31) (h0 : -1000000000 ≤ x) (h1 : x ≤ 1000000000) : modW p (wrap64 x) = x % p := by
  rw [wsm (by omega) (by omega), modW]
  have hb := tmod_bd (p := p) (by omega) x
  rw [wsm (by omega) (by omega), Int.tmod_eq_emod_of_nonneg (by omega), tmod_emod]

end Go.Proofs.Ytmgbpmihbljngaa.PA
namespace Go.Proofs.Ytmgbpmihbljngaa.PA
open Go.RowKit Go.Proofs.YtmgbpmihbljngaaW.PrintWords Go.Proofs.YtmgbpmihbljngaaW.PrintLast Go.Proofs.YtmgbpmihbljngaaW.PrintMore
set_option linter.unusedVariables false
set_option linter.unusedSimpArgs false

/-- the first number that is not 0 (0 if there is none) -/
def headP (l : List Int) : Int := (l.find? (fun x => x != 0)).getD 0
/-- a row divided by its first number that is not 0 -/
def rowP (p : Int) (l : List Int) : List Int := l.map fun x => x * invP p (headP l) % p
theorem headP_cons (x : Int) (l : List Int) : headP (x :: l) = if x = 0 then headP l else x := by
  unfold headP
  by_cases h : x = 0
  · simp [h]
  · simp [h]
theorem mul30 {p x y : Int} (hp : p ≤ 31) (h0 : 0 ≤ x) (h1 : x < p) (h2 : 0 ≤ y) (h3 : y < p) : 0 ≤ x * y ∧ x * y ≤ 900 := by
  have h := Int.mul_le_mul (show x ≤ 30 by omega) (show y ≤ 30 by omega) h2 (by omega)
  exact ⟨Int.mul_nonneg h0 h2, by omega⟩
theorem l4Row_l {p : Int} (hp : primeB p = true) (l : List Int) (hr : ∀ x ∈ l, 0 ≤ x ∧ x < p) (hl : l.length ≤ 1000) : ∀ (d i : Nat) (acc : List Int) (n : Int), i + d = l.length → acc.length = i → (n = 0 ∨ 0 ≤ n ∧ n < p) →
    Ev (fun k => spec_l4Row.l0 k p l acc n (i : Int)) (acc ++ (l.drop i).map fun x => x * (if n = 0 then invP p (headP (l.drop i)) else n) % p)
  | 0, i, acc, n, h, ha, hn => by
    refine Ev.step (f := fun _ => some acc) (fun k => ?_) ?_
    · rw [spec_l4Row.l0, if_neg (by omega)]
    · rw [List.drop_eq_nil_of_le (by omega)]; simpa using Ev.now acc
  | d + 1, i, acc, n, h, ha, hn => by
    have hb := prime_bd hp
    have hi : i < l.length := by omega
    have hx := hr _ (List.getElem_mem hi)
    rw [← rd_at l i hi] at hx
    rw [rd_drop l i hi]
    by_cases h0 : n = 0
    · have hv := invP_spec hp hx.1 hx.2
      have hm := mul30 hb.2 hx.1 hx.2 hv.2.1 hv.2.2.1
      refine Ev.step (f := fun k => (spec_l4Turned.f k p (rd l (i : Int))).bind fun t => spec_l4Row.l0 k p l (acc ++ [Int.tmod (wrap64 ((rd l (i : Int)) * t)) p]) t ((i + 1 : Nat) : Int)) (fun k => ?_) (Ev.bind (turned_ev hp hx.1 hx.2) ?_)
      · rw [spec_l4Row.l0, if_pos (by omega), if_pos h0, if_pos (by omega)]
        congr 1
        funext t
        rw [if_neg (by omega), if_pos (by omega), wsm (i := (i : Int) + 1) (by omega) (by omega)]
        rfl
      · have ih := l4Row_l hp l hr hl d (i + 1) (acc ++ [Int.tmod (wrap64 ((rd l (i : Int)) * invP p (rd l (i : Int)))) p]) (invP p (rd l (i : Int))) (by omega) (by simp [ha]) (.inr ⟨hv.2.1, hv.2.2.1⟩)
        rw [wsm (by omega) (by omega), Int.tmod_eq_emod_of_nonneg hm.1] at ih ⊢
        rw [List.append_assoc] at ih
        rw [headP_cons, if_pos h0]
        by_cases hz : rd l (i : Int) = 0
        · rw [if_pos hz]
          rw [if_pos (hv.2.2.2.2 hz)] at ih
          simp only [hz, Int.zero_mul, List.map_cons] at ih ⊢
          exact ih
        · rw [if_neg hz]
          rw [if_neg (invP_ne hp hx.1 hx.2 hz)] at ih
          simpa using ih
    · have hn' : 0 ≤ n ∧ n < p := by rcases hn with h | h; exact absurd h h0; exact h
      have hm := mul30 hb.2 hx.1 hx.2 hn'.1 hn'.2
      refine Ev.step (f := fun k => spec_l4Row.l0 k p l (acc ++ [Int.tmod (wrap64 ((rd l (i : Int)) * n)) p]) n ((i + 1 : Nat) : Int)) (fun k => ?_) ?_
      · rw [spec_l4Row.l0, if_pos (by omega), if_neg h0, if_pos (by omega), if_neg (by omega), if_pos (by omega), wsm (i := (i : Int) + 1) (by omega) (by omega)]
        rfl
      · have ih := l4Row_l hp l hr hl d (i + 1) (acc ++ [Int.tmod (wrap64 ((rd l (i : Int)) * n)) p]) n (by omega) (by simp [ha]) hn
        rw [wsm (by omega) (by omega), Int.tmod_eq_emod_of_nonneg hm.1] at ih ⊢
        rw [if_neg h0] at ih ⊢
        simpa using ih
theorem l4Row_ev {p : Int} (hp : primeB p = true) (l : List Int) (hr : ∀ x ∈ l, 0 ≤ x ∧ x < p) (hl : l.length ≤ 1000) : Ev (fun k => spec_l4Row.f k p l) (rowP p l) := by
  have := l4Row_l hp l hr hl l.length 0 [] 0 (by omega) rfl (.inl rfl)
  unfold spec_l4Row.f
  simpa [rowP] using this

end Go.Proofs.Ytmgbpmihbljngaa.PA
namespace Go.Proofs.Ytmgbpmihbljngaa.PA
open Go.RowKit Go.Proofs.YtmgbpmihbljngaaW.PrintWords Go.Proofs.YtmgbpmihbljngaaW.PrintLast Go.Proofs.YtmgbpmihbljngaaW.PrintMore
set_option linter.unusedVariables false
set_option linter.unusedSimpArgs false

theorem l4Mod_eq (p x : Int) (hp : p ≠ 0) : spec_l4Mod.f p x = some (modW p x) := by rw [spec_l4Mod.f, if_neg hp]; rfl
theorem l4Less_l {p t : Int} {w : Nat} (hp : 7 ≤ p ∧ p ≤ 31) (ht : 0 ≤ t ∧ t < p) {h r : List Int} (hh : h.length = w ∧ ∀ x ∈ h, 0 ≤ x ∧ x < p) (hr : r.length = w ∧ ∀ x ∈ r, 0 ≤ x ∧ x < p) (hw : w ≤ 1000) : ∀ (d i : Nat), i + d = w → Ev (fun k => spec_l4Less.l0 k p r t h ((lessP p t h r).take i) (i : Int)) (lessP p t h r)
  | 0, i, he => by
    have hl := (less_ok (p := p) (t := t) (by omega) hh.1 hr.1).1
    refine Ev.step (f := fun _ => some (lessP p t h r)) (fun k => ?_) (Ev.now _)
    rw [spec_l4Less.l0, if_neg (by omega), List.take_of_length_le (by omega)]
  | d + 1, i, he => by
    have hl := (less_ok (p := p) (t := t) (by omega) hh.1 hr.1).1
    have hx := ok_rd hr i (by omega)
    have hy := ok_rd hh i (by omega)
    have hm := mul30 hp.2 ht.1 ht.2 hy.1 hy.2
    refine Ev.step (f := fun k => spec_l4Less.l0 k p r t h ((lessP p t h r).take (i + 1)) ((i + 1 : Nat) : Int)) (fun k => ?_) (l4Less_l hp ht hh hr hw d (i + 1) (by omega))
    rw [spec_l4Less.l0, if_pos (by omega), if_pos (by omega), if_pos (by omega), l4Mod_eq _ _ (by omega), Option.bind_some, if_pos (by simp; omega), wsm (i := (i : Int) + 1) (by omega) (by omega), wsm (i := t * rd h (i : Int)) (by omega) (by omega), tmodW_small hp (by omega) (by omega)]
    have e : (lessP p t h r).take (i + 1) = (lessP p t h r).take i ++ [(rd r (i : Int) - t * rd h (i : Int)) % p] := by
      rw [List.take_add_one, List.getElem?_eq_getElem (by omega), ← rd_at (lessP p t h r) i (by omega), rd_less i (by omega) (by omega)]
      rfl
    rw [e]
    rfl
theorem l4Less_ev {p t : Int} {w : Nat} (hp : 7 ≤ p ∧ p ≤ 31) (ht : 0 ≤ t ∧ t < p) {h r : List Int} (hh : h.length = w ∧ ∀ x ∈ h, 0 ≤ x ∧ x < p) (hr : r.length = w ∧ ∀ x ∈ r, 0 ≤ x ∧ x < p) (hw : w ≤ 1000) : Ev (fun k => spec_l4Less.f k p r t h) (lessP p t h r) := by
  unfold spec_l4Less.f
  simpa using l4Less_l hp ht hh hr hw w 0 (by omega)
theorem rdL_at (L : List (List Int)) (i : Nat) : rd_L4 L (i : Int) = L.getD i [] := by simp [rd_L4]
theorem headP_at : ∀ (l : List Int) (c : Nat), c < l.length → (∀ j : Nat, j < c → rd l (j : Int) = 0) → rd l (c : Int) ≠ 0 → headP l = rd l (c : Int)
  | [], c, h, _, _ => absurd h (by simp)
  | x :: l, 0, _, _, hn => by
    have e : rd (x :: l) ((0 : Nat) : Int) = x := by simp [rd]
    rw [e] at hn ⊢
    rw [headP_cons, if_neg hn]
  | x :: l, c + 1, h, hz, hn => by
    have e : ∀ j : Nat, rd (x :: l) ((j + 1 : Nat) : Int) = rd l (j : Int) := fun j => by simp [rd]
    have h0 : x = 0 := by have := hz 0 (by omega); simpa [rd] using this
    rw [headP_cons, if_pos h0, e]
    exact headP_at l c (by simpa using h) (fun j hj => by rw [← e]; exact hz (j + 1) (by omega)) (by rw [← e]; exact hn)
theorem rowP_at {p : Int} {l : List Int} {c : Nat} (hc : c < l.length) (hz : ∀ j : Nat, j < c → rd l (j : Int) = 0) (hn : rd l (c : Int) ≠ 0) : rowP p l = scaleP p (invP p (rd l (c : Int))) l := by
  rw [rowP, headP_at l c hc hz hn, scaleP]
/-- zeros ahead of column c -/
def zeroTo (c : Nat) (L : List (List Int)) : Prop := ∀ r ∈ L, ∀ j : Nat, j < c → rd r (j : Int) = 0
theorem zeroTo_next {p : Int} (hp : primeB p = true) {w c : Nat} (hc : c < w) {L : List (List Int)} (hL : okR p w L) (hz : zeroTo c L) {i : Nat} (hf : L.findIdx? (fun row => rd row (c : Int) != 0) = some i) :
    zeroTo (c + 1) ((L.eraseIdx i).map fun r => lessP p (rd r (c : Int)) (scaleP p (invP p (rd (L.getD i []) (c : Int))) (L.getD i [])) r) := by
  intro r hr j hj
  obtain ⟨q, hq, rfl⟩ := List.mem_map.1 hr
  have hq' := List.mem_of_mem_eraseIdx hq
  obtain ⟨hi, hne⟩ := find_lt hf
  have hx := hL _ (mem_getD hi)
  have hxr := ok_rd hx c hc
  have hne' : rd (L.getD i []) (c : Int) ≠ 0 := by simpa using hne
  have hql := (hL q hq').1
  rw [rd_less j (by omega) (by rw [(scale_ok (by have := prime_bd hp; omega) hx.1).1]; omega), rd_scale j (by omega)]
  by_cases e : j = c
  · subst e
    rw [(invP_spec hp hxr.1 hxr.2).2.2.2.1 hne', Int.mul_one, Int.sub_self, Int.zero_emod]
  · rw [hz q hq' j (by omega), hz _ (mem_getD hi) j (by omega)]
    simp
theorem zeroTo_none {c : Nat} {L : List (List Int)} (hz : zeroTo c L) (hf : L.findIdx? (fun row => rd row (c : Int) != 0) = none) : zeroTo (c + 1) L := by
  intro r hr j hj
  by_cases e : j = c
  · subst e
    have := List.findIdx?_eq_none_iff.1 hf r hr
    simpa using this
  · exact hz r hr j (by omega)
/-- the search -/
theorem search_ev {p : Int} {w : Nat} {rows out : List (List Int)} {heads : List Int} {c : Nat} {R : List (List Int) × List Int} (hc : c < w) (hw : w ≤ 1000) (hlen : rows.length < 1000000) (hr : ∀ r ∈ rows, r.length = w)
    (hnone : rows.findIdx? (fun row => rd row (c : Int) != 0) = none → Ev (fun k => spec_l4Reduce.l0 k p rows (w : Int) out heads ((c + 1 : Nat) : Int)) R)
    (hsome : ∀ i, rows.findIdx? (fun row => rd row (c : Int) != 0) = some i → Ev (fun k => (spec_l4Row.f k p (rows.getD i [])).bind fun t => spec_l4Reduce.l2 k p rows (w : Int) out heads (c : Int) (i : Int) t [] 0) R) :
    ∀ (d i : Nat), i + d = rows.length → (rows.take i).findIdx? (fun row => rd row (c : Int) != 0) = none → Ev (fun k => spec_l4Reduce.l1 k p rows (w : Int) out heads (c : Int) (-1) (i : Int)) R
  | 0, i, he, hf => by
    have hf' : rows.findIdx? (fun row => rd row (c : Int) != 0) = none := by rwa [List.take_of_length_le (by omega)] at hf
    refine Ev.step (f := fun k => spec_l4Reduce.j2 k p rows (w : Int) out heads (c : Int) (-1) (i : Int) false) (fun k => ?_) ?_
    · rw [spec_l4Reduce.l1, if_neg (by omega)]
    · refine Ev.step (f := fun k => spec_l4Reduce.l0 k p rows (w : Int) out heads ((c + 1 : Nat) : Int)) (fun k => ?_) (hnone hf')
      rw [spec_l4Reduce.j2, if_neg (by simp), if_pos (by omega), wsm (by omega) (by omega)]
      rfl
  | d + 1, i, he, hf => by
    have hi : i < rows.length := by omega
    have hrl : (rows.getD i []).length = w := hr _ (mem_getD hi)
    refine Ev.step (f := fun k => spec_l4Reduce.j2 k p rows (w : Int) out heads (c : Int) (-1) (i : Int) true) (fun k => ?_) ?_
    · rw [spec_l4Reduce.l1, if_pos (by omega)]; rfl
    · by_cases hz : rd (rows.getD i []) (c : Int) = 0
      · refine Ev.step (f := fun k => spec_l4Reduce.l1 k p rows (w : Int) out heads (c : Int) (-1) ((i + 1 : Nat) : Int)) (fun k => ?_) (search_ev hc hw hlen hr hnone hsome d (i + 1) (by omega) ?_)
        · rw [spec_l4Reduce.j2, if_pos rfl, if_pos (by omega), if_pos (by omega), if_pos (by omega), rdL_at, if_pos (by omega), if_pos hz, wsm (by omega) (by omega)]
          rfl
        · rw [List.take_add_one, List.findIdx?_append, hf, List.getElem?_eq_getElem hi]
          rw [List.getD_eq_getElem?_getD, List.getElem?_eq_getElem hi] at hz
          simp only [Option.getD_some] at hz
          simp [List.findIdx?_cons, hz]
      · have hfi : rows.findIdx? (fun row => rd row (c : Int) != 0) = some i := by
          rw [List.getD_eq_getElem?_getD, List.getElem?_eq_getElem hi] at hz
          simp only [Option.getD_some] at hz
          have hsplit : rows = rows.take i ++ rows[i] :: rows.drop (i + 1) := by rw [List.getElem_cons_drop, List.take_append_drop]
          rw [hsplit, List.findIdx?_append, hf]
          have hz' : (rd rows[i] (c : Int) != 0) = true := bne_iff_ne.mpr hz
          rw [List.findIdx?_cons, hz']
          simp only [if_true, Option.map_some, Option.none_or, List.length_take, Nat.zero_add]
          rw [Nat.min_eq_left (by omega)]
        have hs := hsome i hfi
        have hfin : ∀ q : Nat, Ev (fun k => spec_l4Reduce.j2 k p rows (w : Int) out heads (c : Int) (i : Int) (q : Int) false) R := fun q => by
          refine Ev.step (f := fun k => (spec_l4Row.f k p (rows.getD i [])).bind fun t => spec_l4Reduce.l2 k p rows (w : Int) out heads (c : Int) (i : Int) t [] 0) (fun k => ?_) hs
          rw [spec_l4Reduce.j2, if_neg (by simp), if_neg (by omega), if_pos (by omega), if_pos (by omega), rdL_at]
        refine Ev.step (f := fun k => spec_l4Reduce.l1 k p rows (w : Int) out heads (c : Int) (i : Int) ((i + 1 : Nat) : Int)) (fun k => ?_) ?_
        · rw [spec_l4Reduce.j2, if_pos rfl, if_pos (by omega), if_pos (by omega), if_pos (by omega), rdL_at, if_pos (by omega), if_neg hz, wsm (by omega) (by omega)]
          rfl
        · refine Ev.step (f := fun k => spec_l4Reduce.j2 k p rows (w : Int) out heads (c : Int) (i : Int) ((i + 1 : Nat) : Int) false) (fun k => ?_) (hfin (i + 1))
          rw [spec_l4Reduce.l1]
          split
          · rw [decide_eq_false (by omega)]
          · rfl
/-- the rows that are left are lessened -/
theorem rest_ev {p : Int} {w : Nat} (hp : 7 ≤ p ∧ p ≤ 31) {rows out : List (List Int)} {heads : List Int} {c at_ : Nat} {row : List Int} {R : List (List Int) × List Int} (hc : c < w) (hw : w ≤ 1000) (hlen : rows.length < 1000000) (hr : okR p w rows) (hrow : row.length = w ∧ ∀ x ∈ row, 0 ≤ x ∧ x < p) (hat : at_ < rows.length)
    (hend : Ev (fun k => spec_l4Reduce.l3 k p ((rows.eraseIdx at_).map fun r => lessP p (rd r (c : Int)) row r) (w : Int) out heads (c : Int) row 0) R) :
    ∀ (d i : Nat), i + d = rows.length → Ev (fun k => spec_l4Reduce.l2 k p rows (w : Int) out heads (c : Int) (at_ : Int) row (((rows.take i).eraseIdx at_).map fun r => lessP p (rd r (c : Int)) row r) (i : Int)) R
  | 0, i, he => by
    refine Ev.step (f := fun k => spec_l4Reduce.l3 k p ((rows.eraseIdx at_).map fun r => lessP p (rd r (c : Int)) row r) (w : Int) out heads (c : Int) row 0) (fun k => ?_) hend
    rw [spec_l4Reduce.l2, if_neg (by omega), List.take_of_length_le (by omega)]
  | d + 1, i, he => by
    have hi : i < rows.length := by omega
    have ih := rest_ev hp hc hw hlen hr hrow hat hend d (i + 1) (by omega)
    by_cases e : i = at_
    · subst e
      refine Ev.step (f := fun k => spec_l4Reduce.l2 k p rows (w : Int) out heads (c : Int) (i : Int) row (((rows.take (i + 1)).eraseIdx i).map fun r => lessP p (rd r (c : Int)) row r) ((i + 1 : Nat) : Int)) (fun k => ?_) ih
      rw [spec_l4Reduce.l2, if_pos (by omega), if_pos rfl, wsm (by omega) (by omega)]
      have e1 : (rows.take i).eraseIdx i = rows.take i := List.eraseIdx_of_length_le (by rw [List.length_take]; omega)
      have e2 : (rows.take (i + 1)).eraseIdx i = rows.take i := by
        rw [List.take_add_one, List.eraseIdx_append_of_length_le (by rw [List.length_take]; omega)]
        simp [Nat.min_eq_left (Nat.le_of_lt hi), List.getElem?_eq_getElem hi]
      rw [e1, e2]
      rfl
    · have hrow_i := hr _ (mem_getD hi)
      have ht := ok_rd hrow_i c hc
      refine Ev.step (f := fun k => (spec_l4Less.f k p (rows.getD i []) (rd (rows.getD i []) (c : Int)) row).bind fun t => if (((rows.take i).eraseIdx at_).map fun r => lessP p (rd r (c : Int)) row r).length < 5864062014805 then spec_l4Reduce.l2 k p rows (w : Int) out heads (c : Int) (at_ : Int) row ((((rows.take i).eraseIdx at_).map fun r => lessP p (rd r (c : Int)) row r) ++ [t]) ((i + 1 : Nat) : Int) else none) (fun k => ?_) ?_
      · rw [spec_l4Reduce.l2, if_pos (by omega), if_neg (by omega), if_pos (by omega), if_pos (by omega), rdL_at, if_pos (by omega), wsm (by omega) (by omega)]
        rfl
      · refine Ev.bind (l4Less_ev hp ht hrow hrow_i hw) (Ev.yes ?_ ?_)
        · rw [List.length_map]
          have h1 := List.length_eraseIdx_le (rows.take i) at_
          have h2 : (rows.take i).length ≤ rows.length := by rw [List.length_take]; omega
          omega
        · have e2 : ((rows.take (i + 1)).eraseIdx at_).map (fun r => lessP p (rd r (c : Int)) row r) = ((rows.take i).eraseIdx at_).map (fun r => lessP p (rd r (c : Int)) row r) ++ [lessP p (rd (rows.getD i []) (c : Int)) row (rows.getD i [])] := by
            have e3 : rows.take (i + 1) = rows.take i ++ [rows.getD i []] := by
              rw [List.take_add_one, List.getElem?_eq_getElem hi, List.getD_eq_getElem?_getD, List.getElem?_eq_getElem hi]; rfl
            by_cases hlt : at_ < i
            · rw [e3, List.eraseIdx_append_of_lt_length (by simp; omega), List.map_append]; rfl
            · rw [List.eraseIdx_of_length_le (by simp; omega), List.eraseIdx_of_length_le (by simp; omega), e3, List.map_append]; rfl
          rw [e2] at ih
          exact ih
/-- the rows that are done are lessened -/
theorem scanW_set {α : Type} (N R : List α) (j : Nat) (v : α) (hl : N.length = R.length) (hj : j < R.length) (hv : N[j]? = some v) : (N.take j ++ R.drop j).set j v = N.take (j + 1) ++ R.drop (j + 1) := by
  rw [List.set_append_right _ _ (by simp; omega), List.length_take, Nat.min_eq_left (by omega), Nat.sub_self, List.drop_eq_getElem_cons hj, List.set_cons_zero, List.take_add_one, hv]
  simp
theorem done_ev {p : Int} {w : Nat} (hp : 7 ≤ p ∧ p ≤ 31) {rest out : List (List Int)} {heads : List Int} {c : Nat} {row : List Int} {R : List (List Int) × List Int} (hc : c < w) (hw : w ≤ 1000) (hlen : out.length < 1000000) (hh : heads.length < 1000000) (hr : okR p w out) (hrow : row.length = w ∧ ∀ x ∈ row, 0 ≤ x ∧ x < p)
    (hend : Ev (fun k => spec_l4Reduce.l0 k p rest (w : Int) ((out.map fun r => lessP p (rd r (c : Int)) row r) ++ [row]) (heads ++ [(c : Int)]) ((c + 1 : Nat) : Int)) R) :
    ∀ (d i : Nat), i + d = out.length → Ev (fun k => spec_l4Reduce.l3 k p rest (w : Int) ((out.map fun r => lessP p (rd r (c : Int)) row r).take i ++ out.drop i) heads (c : Int) row (i : Int)) R
  | 0, i, he => by
    refine Ev.step (f := fun k => spec_l4Reduce.l0 k p rest (w : Int) ((out.map fun r => lessP p (rd r (c : Int)) row r) ++ [row]) (heads ++ [(c : Int)]) ((c + 1 : Nat) : Int)) (fun k => ?_) hend
    rw [List.drop_eq_nil_of_le (by omega), List.append_nil, List.take_of_length_le (by simp; omega), spec_l4Reduce.l3, if_neg (by simp; omega), if_pos (by simp; omega), if_pos (by omega), wsm (by omega) (by omega)]
    rfl
  | d + 1, i, he => by
    have hi : i < out.length := by omega
    have ih := done_ev hp hc hw hlen hh hr hrow hend d (i + 1) (by omega)
    have hrow_i := hr _ (mem_getD hi)
    have ht := ok_rd hrow_i c hc
    have hcur : ((out.map fun r => lessP p (rd r (c : Int)) row r).take i ++ out.drop i).getD i [] = out.getD i [] := by
      simp [List.getD_eq_getElem?_getD, List.getElem?_append_right, Nat.min_eq_left (Nat.le_of_lt hi), hi]
    have hcl : ((out.map fun r => lessP p (rd r (c : Int)) row r).take i ++ out.drop i).length = out.length := by simp; omega
    have hset : ((out.map fun r => lessP p (rd r (c : Int)) row r).take i ++ out.drop i).set i (lessP p (rd (out.getD i []) (c : Int)) row (out.getD i [])) = (out.map fun r => lessP p (rd r (c : Int)) row r).take (i + 1) ++ out.drop (i + 1) :=
      scanW_set _ _ _ _ (by simp) hi (by simp [List.getD_eq_getElem?_getD, List.getElem?_eq_getElem hi])
    refine Ev.step (f := fun k => (spec_l4Less.f k p (out.getD i []) (rd (out.getD i []) (c : Int)) row).bind fun t => spec_l4Reduce.l3 k p rest (w : Int) (((out.map fun r => lessP p (rd r (c : Int)) row r).take i ++ out.drop i).set i t) heads (c : Int) row ((i + 1 : Nat) : Int)) (fun k => ?_) ?_
    · rw [spec_l4Reduce.l3, if_pos (by omega), if_pos (by omega), if_pos (by omega), rdL_at, hcur, if_pos (by omega), wsm (by omega) (by omega), Int.toNat_natCast]
      rfl
    · refine Ev.bind (l4Less_ev hp ht hrow hrow_i hw) ?_
      rw [hset]
      exact ih
theorem l4Reduce_l {p : Int} (hp : primeB p = true) {w : Nat} (hw : w ≤ 1000) : ∀ (d c : Nat) (L O : List (List Int)) (H : List Int), c + d = w → okR p w L → okR p w O → zeroTo c L → L.length + O.length < 1000000 → H.length = O.length →
    Ev (fun k => spec_l4Reduce.l0 k p L (w : Int) O H (c : Int)) (redP p d c L O, headsP p d c L H)
  | 0, c, L, O, H, hc, _, _, _, _, _ => by
    refine Ev.step (f := fun _ => some (O, H)) (fun k => ?_) (Ev.now _)
    rw [spec_l4Reduce.l0, if_neg (by omega)]
  | d + 1, c, L, O, H, hc, hL, hO, hz, hl, hH => by
    have hb := prime_bd hp
    refine Ev.step (f := fun k => spec_l4Reduce.l1 k p L (w : Int) O H (c : Int) (-1) ((0 : Nat) : Int)) (fun k => ?_) ?_
    · rw [spec_l4Reduce.l0, if_pos (by omega)]; rfl
    · refine search_ev (by omega) hw (by omega) (fun r hr => (hL r hr).1) (fun hf => ?_) (fun i hf => ?_) L.length 0 (by omega) rfl
      · have ih := l4Reduce_l hp hw d (c + 1) L O H (by omega) hL hO (zeroTo_none hz hf) hl hH
        rw [redP, headsP, hf]
        exact ih
      · obtain ⟨hi, hne⟩ := find_lt hf
        have hx := hL _ (mem_getD hi)
        have hne' : rd (L.getD i []) (c : Int) ≠ 0 := by simpa using hne
        have hs := scale_ok (p := p) (b := invP p (rd (L.getD i []) (c : Int))) (by omega) hx.1
        have hzn := zeroTo_next hp (by omega) hL hz hf
        have ih := l4Reduce_l hp hw d (c + 1) ((L.eraseIdx i).map fun r => lessP p (rd r (c : Int)) (scaleP p (invP p (rd (L.getD i []) (c : Int))) (L.getD i [])) r) ((O.map fun r => lessP p (rd r (c : Int)) (scaleP p (invP p (rd (L.getD i []) (c : Int))) (L.getD i [])) r) ++ [scaleP p (invP p (rd (L.getD i []) (c : Int))) (L.getD i [])]) (H ++ [(c : Int)]) (by omega)
          (okR_less _ (by omega) hs.1 (okR_erase i hL)) (okR_app (okR_less _ (by omega) hs.1 hO) (okR_cons hs (okR_nil p w))) hzn (by simp [List.length_eraseIdx, hi]; omega) (by simp [hH])
        rw [redP, headsP, hf]
        simp only
        refine Ev.bind (a := scaleP p (invP p (rd (L.getD i []) (c : Int))) (L.getD i [])) ?_ ?_
        · have h1 := l4Row_ev hp (L.getD i []) hx.2 (by omega)
          rwa [rowP_at (by omega) (hz _ (mem_getD hi)) hne'] at h1
        · have h2 := done_ev hb (c := c) (heads := H) (out := O) (rest := (L.eraseIdx i).map fun r => lessP p (rd r (c : Int)) (scaleP p (invP p (rd (L.getD i []) (c : Int))) (L.getD i [])) r) (by omega) hw (by omega) (by omega) hO hs ih O.length 0 (by omega)
          have h3 := rest_ev hb (c := c) (by omega) hw (by omega) hL hs hi (by simpa using h2) L.length 0 (by omega)
          simpa using h3
theorem l4Reduce_ev {p : Int} (hp : primeB p = true) {w : Nat} (hw : w ≤ 1000) (L : List (List Int)) (hL : okR p w L) (hl : L.length < 1000000) : Ev (fun k => spec_l4Reduce.f k p L (w : Int)) (redP p w 0 L [], headsP p w 0 L []) := by
  unfold spec_l4Reduce.f
  exact l4Reduce_l hp hw w 0 L [] [] (by omega) hL (okR_nil p w) (fun _ _ j hj => absurd hj (by omega)) (by simpa using hl) rfl

end Go.Proofs.Ytmgbpmihbljngaa.PA
namespace Go.Proofs.Ytmgbpmihbljngaa.PA
open Go.RowKit Go.Proofs.YtmgbpmihbljngaaW.PrintWords Go.Proofs.YtmgbpmihbljngaaW.PrintLast Go.Proofs.YtmgbpmihbljngaaW.PrintMore
set_option linter.unusedVariables false
set_option linter.unusedSimpArgs false

theorem dvd_emod (a p : Int) : p ∣ a - a % p := ⟨a / p, by have := Int.mul_ediv_add_emod a p; omega⟩
theorem fn_less {p t : Int} {h r : List Int} {w : Nat} (hh : h.length = w) (hr : r.length = w) {j : Nat} (hj : j < w) : fn (lessP p t h r) j = (fn r j - t * fn h j) % p := rd_less j (by omega) (by omega)
theorem fn_scale {p b : Int} {r : List Int} {w : Nat} (hr : r.length = w) {j : Nat} (hj : j < w) : fn (scaleP p b r) j = fn r j * b % p := rd_scale j (by omega)
theorem split_at {α : Type} [Inhabited α] (L : List α) (i : Nat) (d : α) (hi : i < L.length) : L = L.take i ++ L.getD i d :: L.drop (i + 1) ∧ L.eraseIdx i = L.take i ++ L.drop (i + 1) := by
  refine ⟨?_, List.eraseIdx_eq_take_drop_succ L i⟩
  rw [List.getD_eq_getElem?_getD, List.getElem?_eq_getElem hi, Option.getD_some, List.getElem_cons_drop, List.take_append_drop]
theorem mem_split {L : List (List Int)} {i : Nat} (hi : i < L.length) {r : List Int} : r ∈ L ↔ r = L.getD i [] ∨ r ∈ L.eraseIdx i := by
  obtain ⟨h1, h2⟩ := split_at L i [] hi
  rw [h2]
  conv => lhs; rw [h1]
  simp only [List.mem_append, List.mem_cons]
  constructor
  · rintro (h | h | h)
    · exact .inr (.inl h)
    · exact .inl h
    · exact .inr (.inr h)
  · rintro (h | h | h)
    · exact .inr (.inl h)
    · exact .inl h
    · exact .inr (.inr h)
theorem red_rref {p : Int} (hp : primeB p = true) {w : Nat} : ∀ (d c : Nat) (L : List (List Int)) (P : List (Nat × List Int)), c + d = w → okR p w L → Rref p w P → (∀ x ∈ P, x.1 < c) → zeroTo c L →
    ∃ Q : List (Nat × List Int), redP p d c L (P.map Prod.snd) = Q.map Prod.snd ∧ headsP p d c L (P.map fun x => (x.1 : Int)) = Q.map (fun x => (x.1 : Int)) ∧ Rref p w Q ∧ (∀ r ∈ L ++ P.map Prod.snd, Sp p w (Q.map Prod.snd) (fn r)) ∧ ∀ x ∈ Q, Sp p w (L ++ P.map Prod.snd) (fn x.2)
  | 0, c, L, P, hw, hL, hP, hlt, hz => by
    refine ⟨P, rfl, rfl, hP, fun r hr => ?_, fun x hx => Sp.mem (by simp; exact .inr ⟨_, hx⟩)⟩
    rcases List.mem_append.1 hr with hr | hr
    · exact .zero _ fun j hj => by rw [fn, hz r hr j (by omega)]; exact Int.dvd_zero p
    · exact Sp.mem hr
  | d + 1, c, L, P, hw, hL, hP, hlt, hz => by
    have hb := prime_bd hp
    rw [redP, headsP]
    cases hf : L.findIdx? (fun row => rd row (c : Int) != 0) with
    | none => exact red_rref hp d (c + 1) L P (by omega) hL hP (fun x hx => by have := hlt x hx; omega) (zeroTo_none hz hf)
    | some i =>
      simp only
      obtain ⟨hi, hne⟩ := find_lt hf
      have hx := hL _ (mem_getD hi)
      have hxr := ok_rd hx c (by omega)
      have hne' : rd (L.getD i []) (c : Int) ≠ 0 := by simpa using hne
      have hinv := (invP_spec hp hxr.1 hxr.2).2.2.2.1 hne'
      have hs := scale_ok (p := p) (b := invP p (rd (L.getD i []) (c : Int))) (by omega) hx.1
      have hzn := zeroTo_next hp (by omega) hL hz hf
      obtain ⟨x, hxe⟩ : ∃ x, L.getD i [] = x := ⟨_, rfl⟩
      rw [hxe] at hx hxr hne' hinv hs hzn ⊢
      have hxm : x ∈ L := hxe ▸ mem_getD hi
      obtain ⟨b, hbe⟩ : ∃ b, invP p (rd x (c : Int)) = b := ⟨_, rfl⟩
      rw [hbe] at hinv hs hzn ⊢
      obtain ⟨h, hhe⟩ : ∃ h, scaleP p b x = h := ⟨_, rfl⟩
      have hfh : ∀ j, j < w → fn h j = fn x j * b % p := fun j hj => by rw [← hhe]; exact fn_scale hx.1 hj
      rw [hhe] at hs hzn ⊢
      have hhc : fn h c = 1 := by rw [hfh c (by omega)]; exact hinv
      have hhl : ∀ j, j < c → fn h j = 0 := fun j hj => by rw [hfh j (by omega), fn, hz x hxm j hj]; simp
      have hfl : ∀ r : List Int, r.length = w → ∀ j, j < w → fn (lessP p (rd r (c : Int)) h r) j = (fn r j - fn r c * fn h j) % p := fun r hr j hj => fn_less hs.1 hr hj
      -- the next state
      have hP' : Rref p w (P.map (fun y => (y.1, lessP p (rd y.2 (c : Int)) h y.2)) ++ [(c, h)]) := by
        have hm : ∀ z, z ∈ P.map (fun y => (y.1, lessP p (rd y.2 (c : Int)) h y.2)) ++ [(c, h)] → (∃ y ∈ P, z = (y.1, lessP p (rd y.2 (c : Int)) h y.2)) ∨ z = (c, h) := by
          intro z hz
          rcases List.mem_append.1 hz with hz | hz
          · obtain ⟨y, hy, rfl⟩ := List.mem_map.1 hz; exact .inl ⟨y, hy, rfl⟩
          · exact .inr (by simpa using hz)
        refine ⟨fun z hz => ?_, fun z hz => ?_, fun z hz => ?_, fun z hz j hj => ?_, fun z hz z' hz' hnn => ?_, ?_⟩
        · rcases hm z hz with ⟨y, hy, rfl⟩ | rfl
          · exact hP.lt y hy
          · show c < w; omega
        · rcases hm z hz with ⟨y, hy, rfl⟩ | rfl
          · exact less_ok (by omega) hs.1 (hP.ok y hy).1
          · exact hs
        · rcases hm z hz with ⟨y, hy, rfl⟩ | rfl
          · have h1 := hlt y hy
            show fn (lessP p (rd y.2 (c : Int)) h y.2) y.1 = 1
            rw [hfl _ (hP.ok y hy).1 y.1 (by omega), hP.one y hy, hhl y.1 h1, Int.mul_zero, Int.sub_zero, Int.emod_eq_of_lt (by omega) (by omega)]
          · exact hhc
        · rcases hm z hz with ⟨y, hy, rfl⟩ | rfl
          · have h1 := hlt y hy
            have hj' : j < y.1 := hj
            show fn (lessP p (rd y.2 (c : Int)) h y.2) j = 0
            rw [hfl _ (hP.ok y hy).1 j (by omega), hP.low y hy j hj', hhl j (by omega)]; simp
          · exact hhl j hj
        · rcases hm z hz with ⟨y, hy, rfl⟩ | rfl
          · rcases hm z' hz' with ⟨y', hy', rfl⟩ | rfl
            · have h1 := hlt y' hy'
              show fn (lessP p (rd y.2 (c : Int)) h y.2) y'.1 = 0
              rw [hfl _ (hP.ok y hy).1 y'.1 (by omega), hP.off y hy y' hy' hnn, hhl y'.1 h1]; simp
            · show fn (lessP p (rd y.2 (c : Int)) h y.2) c = 0
              rw [hfl _ (hP.ok y hy).1 c (by omega), hhc]; simp
          · rcases hm z' hz' with ⟨y', hy', rfl⟩ | rfl
            · exact hhl y'.1 (hlt y' hy')
            · exact absurd rfl hnn
        · rw [List.pairwise_append]
          refine ⟨?_, by simp, fun a ha b hb => ?_⟩
          · rw [List.pairwise_map]; exact hP.inc
          · obtain ⟨y, hy, rfl⟩ := List.mem_map.1 ha
            have hbe : b = (c, h) := by simpa using hb
            subst hbe
            exact hlt y hy
      have e1 : (P.map Prod.snd).map (fun r => lessP p (rd r (c : Int)) h r) ++ [h] = (P.map (fun y => (y.1, lessP p (rd y.2 (c : Int)) h y.2)) ++ [(c, h)]).map Prod.snd := by
        simp [List.map_map, Function.comp_def]
      have e2 : (P.map fun x => (x.1 : Int)) ++ [(c : Int)] = (P.map (fun y => (y.1, lessP p (rd y.2 (c : Int)) h y.2)) ++ [(c, h)]).map fun x => (x.1 : Int) := by
        simp [List.map_map, Function.comp_def]
      have ih := red_rref hp d (c + 1) ((L.eraseIdx i).map fun r => lessP p (rd r (c : Int)) h r) (P.map (fun y => (y.1, lessP p (rd y.2 (c : Int)) h y.2)) ++ [(c, h)]) (by omega) (okR_less _ (by omega) hs.1 (okR_erase i hL)) hP' (fun z hz => by
          rcases List.mem_append.1 hz with hz | hz
          · obtain ⟨y, hy, rfl⟩ := List.mem_map.1 hz; have := hlt y hy; show y.1 < c + 1; omega
          · have : z = (c, h) := by simpa using hz
            subst this; show c < c + 1; omega) hzn
      rw [e1, e2]
      obtain ⟨Q, hq1, hq2, hQ, hq3, hq4⟩ := ih
      -- the spans
      have hold : ∀ r, r ∈ L ++ P.map Prod.snd → r.length = w := fun r hr => by
        rcases List.mem_append.1 hr with hr | hr
        · exact (hL r hr).1
        · obtain ⟨y, hy, rfl⟩ := List.mem_map.1 hr; exact (hP.ok y hy).1
      have hxs : ∀ j, j < w → p ∣ fn x j - fn x c * fn h j := fun j hj => by
        have h1 := dvd_emod (fn x j * b) p
        rw [← hfh j hj] at h1
        have h2 : p ∣ fn x c * b - 1 := by
          have := dvd_emod (fn x c * b) p
          rw [show fn x c * b % p = 1 from hinv] at this; exact this
        exact dvd_lin (fn x c) (-(fn x j)) h1 h2 (by grind)
      have hnewm : ∀ r, r ∈ L.eraseIdx i ++ P.map Prod.snd → lessP p (rd r (c : Int)) h r ∈ ((L.eraseIdx i).map fun r => lessP p (rd r (c : Int)) h r) ++ (P.map (fun y => (y.1, lessP p (rd y.2 (c : Int)) h y.2)) ++ [(c, h)]).map Prod.snd := fun r hr => by
        rcases List.mem_append.1 hr with hr | hr
        · exact List.mem_append_left _ (List.mem_map_of_mem hr)
        · obtain ⟨y, hy, rfl⟩ := List.mem_map.1 hr
          refine List.mem_append_right _ (List.mem_map.2 ⟨(y.1, lessP p (rd y.2 (c : Int)) h y.2), List.mem_append_left _ (List.mem_map.2 ⟨y, hy, rfl⟩), rfl⟩)
      have hhm : h ∈ ((L.eraseIdx i).map fun r => lessP p (rd r (c : Int)) h r) ++ (P.map (fun y => (y.1, lessP p (rd y.2 (c : Int)) h y.2)) ++ [(c, h)]).map Prod.snd :=
        List.mem_append_right _ (List.mem_map.2 ⟨(c, h), by simp, rfl⟩)
      have hto : ∀ r, r ∈ L ++ P.map Prod.snd → Sp p w (((L.eraseIdx i).map fun r => lessP p (rd r (c : Int)) h r) ++ (P.map (fun y => (y.1, lessP p (rd y.2 (c : Int)) h y.2)) ++ [(c, h)]).map Prod.snd) (fn r) := fun r hr => by
        have hcase : r = x ∨ r ∈ L.eraseIdx i ++ P.map Prod.snd := by
          rcases List.mem_append.1 hr with hr | hr
          · rcases (mem_split hi).1 hr with h1 | h1
            · exact .inl (h1.trans hxe)
            · exact .inr (List.mem_append_left _ h1)
          · exact .inr (List.mem_append_right _ hr)
        rcases hcase with rfl | hr2
        · exact ((Sp.mem hhm).scale (fn r c)).congr hxs
        · refine ((Sp.mem (hnewm r hr2)).sum ((Sp.mem hhm).scale (fn r c))).congr fun j hj => ?_
          rw [hfl r (hold r hr) j hj]
          exact dvd_one 1 (dvd_emod (fn r j - fn r c * fn h j) p) (by omega)
      have hfrom_h : Sp p w (L ++ P.map Prod.snd) (fn h) := ((Sp.mem (List.mem_append_left _ hxm)).scale b).congr fun j hj => by
        rw [hfh j hj]
        exact dvd_one (-1) (dvd_emod (fn x j * b) p) (by rw [Int.mul_comm b]; omega)
      have hfrom : ∀ r, r ∈ ((L.eraseIdx i).map fun r => lessP p (rd r (c : Int)) h r) ++ (P.map (fun y => (y.1, lessP p (rd y.2 (c : Int)) h y.2)) ++ [(c, h)]).map Prod.snd → Sp p w (L ++ P.map Prod.snd) (fn r) := fun r hr => by
        have hcase : r = h ∨ ∃ q, q ∈ L ++ P.map Prod.snd ∧ r = lessP p (rd q (c : Int)) h q := by
          rcases List.mem_append.1 hr with hr | hr
          · obtain ⟨q, hq, rfl⟩ := List.mem_map.1 hr
            exact .inr ⟨q, List.mem_append_left _ (List.mem_of_mem_eraseIdx hq), rfl⟩
          · obtain ⟨z, hz, rfl⟩ := List.mem_map.1 hr
            rcases List.mem_append.1 hz with hz | hz
            · obtain ⟨y, hy, rfl⟩ := List.mem_map.1 hz
              exact .inr ⟨y.2, List.mem_append_right _ (List.mem_map_of_mem hy), rfl⟩
            · have : z = (c, h) := by simpa using hz
              subst this; exact .inl rfl
        rcases hcase with rfl | ⟨q, hq, rfl⟩
        · exact hfrom_h
        · refine ((Sp.mem hq).sum (hfrom_h.scale (-(fn q c)))).congr fun j hj => ?_
          rw [hfl q (hold q hq) j hj]
          exact dvd_one (-1) (dvd_emod (fn q j - fn q c * fn h j) p) (by grind)
      exact ⟨Q, hq1, hq2, hQ, fun r hr => Sp.sub hq3 (hto r hr), fun z hz => Sp.sub hfrom (hq4 z hz)⟩
/-- what redP makes of rows -/
theorem redP_rref {p : Int} (hp : primeB p = true) {w : Nat} {L : List (List Int)} (hL : okR p w L) :
    ∃ Q : List (Nat × List Int), redP p w 0 L [] = Q.map Prod.snd ∧ headsP p w 0 L [] = Q.map (fun x => (x.1 : Int)) ∧ Rref p w Q ∧ (∀ r ∈ L, Sp p w (Q.map Prod.snd) (fn r)) ∧ ∀ x ∈ Q, Sp p w L (fn x.2) := by
  have h := red_rref hp w 0 L [] (by omega) hL ⟨by simp, by simp, by simp, by simp, by simp, by simp⟩ (by simp) (fun r _ j hj => absurd hj (by omega))
  simpa using h

end Go.Proofs.Ytmgbpmihbljngaa.PA
namespace Go.Proofs.Ytmgbpmihbljngaa.PA
open Go.RowKit Go.Proofs.YtmgbpmihbljngaaW.PrintWords Go.Proofs.YtmgbpmihbljngaaW.PrintLast Go.Proofs.YtmgbpmihbljngaaW.PrintMore
set_option linter.unusedVariables false
set_option linter.unusedSimpArgs false

/-- reduced rows with their columns -/
def pairsP (p : Int) (w : Nat) (L : List (List Int)) : List (Nat × List Int) := ((headsP p w 0 L []).map Int.toNat).zip (redP p w 0 L [])
theorem zip_maps {α β : Type} (f : Nat × List Int → α) (g : Nat × List Int → β) : ∀ Q : List (Nat × List Int), (Q.map f).zip (Q.map g) = Q.map fun x => (f x, g x)
  | [] => rfl
  | x :: Q => by rw [List.map_cons, List.map_cons, List.zip_cons_cons, zip_maps f g Q, List.map_cons]
theorem pairsP_spec {p : Int} (hp : primeB p = true) {w : Nat} {L : List (List Int)} (hL : okR p w L) :
    redP p w 0 L [] = (pairsP p w L).map Prod.snd ∧ headsP p w 0 L [] = (pairsP p w L).map (fun x => (x.1 : Int)) ∧ Rref p w (pairsP p w L) ∧ (∀ r ∈ L, Sp p w ((pairsP p w L).map Prod.snd) (fn r)) ∧ ∀ x ∈ pairsP p w L, Sp p w L (fn x.2) := by
  obtain ⟨Q, e1, e2, hQ, h1, h2⟩ := redP_rref hp hL
  have e : pairsP p w L = Q := by
    rw [pairsP, e1, e2, List.map_map, zip_maps]
    simp
  rw [e]
  exact ⟨e1, e2, hQ, h1, h2⟩
/-- the list of column c whose products with the rows are 0 -/
def nullFold (p : Int) (c : Nat) : List (Nat × List Int) → List Int → List Int
  | [], v => v
  | z :: P, v => nullFold p c P (v.set z.1 ((-(fn z.2 c)) % p))
def nullVec (p : Int) (w : Nat) (P : List (Nat × List Int)) (c : Nat) : List Int := nullFold p c P ((List.replicate w 0).set c 1)
def freeC (P : List (Nat × List Int)) (c : Nat) : Bool := !(P.any fun z => z.1 == c)
def nullRows (p : Int) (w : Nat) (P : List (Nat × List Int)) : List (List Int) := ((List.range w).filter (freeC P)).map (nullVec p w P)
def nullP (p : Int) (w : Nat) (L : List (List Int)) : List (List Int) := redP p w 0 (nullRows p w (pairsP p w L)) []
theorem nullFold_len (p : Int) (c : Nat) : ∀ (P : List (Nat × List Int)) (v : List Int), (nullFold p c P v).length = v.length
  | [], _ => rfl
  | z :: P, v => by rw [nullFold, nullFold_len p c P, List.length_set]
theorem fn_set (v : List Int) (i j : Nat) (x : Int) (hi : i < v.length) : fn (v.set i x) j = if j = i then x else fn v j := by
  by_cases e : j = i
  · subst e; simp [fn, rd, List.getD_eq_getElem?_getD, hi]
  · rw [if_neg e]; simp [fn, rd, List.getD_eq_getElem?_getD, List.getElem?_set_ne (Ne.symm e)]
/-- the fold's numbers: those of the columns that P does not name are the first ones -/
theorem nullFold_off (p : Int) (c : Nat) : ∀ (P : List (Nat × List Int)) (v : List Int) (j : Nat), (∀ z ∈ P, z.1 < v.length) → (∀ z ∈ P, z.1 ≠ j) → fn (nullFold p c P v) j = fn v j
  | [], _, _, _, _ => rfl
  | z :: P, v, j, hl, h => by
    rw [nullFold, nullFold_off p c P _ j (fun y hy => by rw [List.length_set]; exact hl y (by simp [hy])) (fun y hy => h y (by simp [hy])), fn_set v z.1 j _ (hl z (by simp)), if_neg (Ne.symm (h z (by simp)))]
theorem nullFold_on (p : Int) (c : Nat) : ∀ (P : List (Nat × List Int)) (v : List Int) (x : Nat × List Int), (∀ z ∈ P, z.1 < v.length) → P.Pairwise (fun x y => x.1 < y.1) → x ∈ P → fn (nullFold p c P v) x.1 = (-(fn x.2 c)) % p
  | [], _, _, _, _, h => absurd h (by simp)
  | z :: P, v, x, hl, hi, h => by
    rw [List.pairwise_cons] at hi
    have hl2 : ∀ y ∈ P, y.1 < (v.set z.1 ((-(fn z.2 c)) % p)).length := fun y hy => by rw [List.length_set]; exact hl y (by simp [hy])
    rw [nullFold]
    rcases List.mem_cons.1 h with rfl | hx
    · rw [nullFold_off p c P _ x.1 hl2 (fun y hy => Nat.ne_of_gt (hi.1 y hy)), fn_set v x.1 x.1 _ (hl x (by simp)), if_pos rfl]
    · exact nullFold_on p c P _ x hl2 hi.2 hx
theorem nullVec_on {p : Int} {w : Nat} {P : List (Nat × List Int)} (h : Rref p w P) (c : Nat) {x : Nat × List Int} (hx : x ∈ P) : fn (nullVec p w P c) x.1 = (-(fn x.2 c)) % p :=
  nullFold_on p c P _ x (fun z hz => by simpa using h.lt z hz) h.inc hx
theorem nullVec_off {p : Int} {w : Nat} {P : List (Nat × List Int)} (h : Rref p w P) {c j : Nat} (hc : c < w) (hj : ∀ z ∈ P, z.1 ≠ j) : fn (nullVec p w P c) j = if j = c then 1 else 0 := by
  rw [nullVec, nullFold_off p c P _ j (fun z hz => by simpa using h.lt z hz) hj, fn_set _ c j _ (by simpa using hc)]
  by_cases e : j = c
  · rw [if_pos e, if_pos e]
  · rw [if_neg e, if_neg e]
    by_cases hw : j < w <;> simp [fn, rd, List.getD_eq_getElem?_getD, hw]
theorem nullVec_len (p : Int) (w : Nat) (P : List (Nat × List Int)) (c : Nat) : (nullVec p w P c).length = w := by simp [nullVec, nullFold_len]
theorem nullRows_ok {p : Int} (hp : 2 ≤ p) {w : Nat} {P : List (Nat × List Int)} (h : Rref p w P) : okR p w (nullRows p w P) := fun r hr => by
  obtain ⟨c, hc, rfl⟩ := List.mem_map.1 hr
  have hcw : c < w := by have := (List.mem_filter.1 hc).1; simpa using this
  refine ⟨nullVec_len p w P c, fun y hy => ?_⟩
  obtain ⟨j, hj, rfl⟩ := List.mem_iff_getElem.1 hy
  have e : (nullVec p w P c)[j] = fn (nullVec p w P c) j := by rw [fn, rd_at _ j hj]
  rw [e]
  by_cases hex : ∃ x ∈ P, x.1 = j
  · obtain ⟨x, hx, rfl⟩ := hex
    rw [nullVec_on h c hx]
    exact ⟨Int.emod_nonneg _ (by omega), Int.emod_lt_of_pos _ (by omega)⟩
  · rw [nullVec_off h hcw (fun z hz e => hex ⟨z, hz, e⟩)]
    split <;> omega

end Go.Proofs.Ytmgbpmihbljngaa.PA
namespace Go.Proofs.Ytmgbpmihbljngaa.PA
open Go.RowKit Go.Proofs.YtmgbpmihbljngaaW.PrintWords Go.Proofs.YtmgbpmihbljngaaW.PrintLast Go.Proofs.YtmgbpmihbljngaaW.PrintMore
set_option linter.unusedVariables false
set_option linter.unusedSimpArgs false

/-- the first number that is not 0 is 1 -/
def monicB (l : List Int) : Bool := (l.find? (fun x => x != 0)) == some 1
/-- a place of space -/
def placeB (p : Int) (a : List Int) : Bool := numsB p a 4 && monicB a

end Go.Proofs.Ytmgbpmihbljngaa.PA
namespace Go.Proofs.Ytmgbpmihbljngaa.PA
open Go.RowKit Go.Proofs.YtmgbpmihbljngaaW.PrintWords Go.Proofs.YtmgbpmihbljngaaW.PrintLast Go.Proofs.YtmgbpmihbljngaaW.PrintMore
set_option linter.unusedVariables false
set_option linter.unusedSimpArgs false

/-- a point's numbers -/
def ptB (p x y z : Int) : Bool := numsB p [x, y, z] 3 && monicB [x, y, z]
theorem rowP_zero {p : Int} (hp : primeB p = true) {l : List Int} (hr : ∀ x ∈ l, 0 ≤ x ∧ x < p) : ((rowP p l).all fun x => x == 0) = l.all fun x => x == 0 := by
  have hb := prime_bd hp
  rw [Bool.eq_iff_iff, List.all_eq_true, List.all_eq_true]
  unfold rowP
  constructor
  · intro h x hx
    cases hf : l.find? (fun x => x != 0) with
    | none => have := List.find?_eq_none.1 hf x hx; simpa using this
    | some y =>
      have hy := List.mem_of_find?_eq_some hf
      have hy0 : y ≠ 0 := by simpa using List.find?_some hf
      have h1 := h _ (List.mem_map.2 ⟨y, hy, rfl⟩)
      rw [headP, hf] at h1
      have := (invP_spec hp (hr y hy).1 (hr y hy).2).2.2.2.1 hy0
      simp only [Option.getD_some] at h1
      rw [this] at h1
      simp at h1
  · intro h x hx
    obtain ⟨y, hy, rfl⟩ := List.mem_map.1 hx
    have := h y hy
    simp at this
    simp [this]

end Go.Proofs.Ytmgbpmihbljngaa.PA
namespace Go.Proofs.Ytmgbpmihbljngaa.PA
open Go.RowKit Go.Proofs.YtmgbpmihbljngaaW.PrintWords Go.Proofs.YtmgbpmihbljngaaW.PrintLast Go.Proofs.YtmgbpmihbljngaaW.PrintMore
set_option linter.unusedVariables false
set_option linter.unusedSimpArgs false

theorem mul_bd {p x y : Int} (hp : 7 ≤ p ∧ p ≤ 31) (hx : 0 ≤ x ∧ x < p) (hy : 0 ≤ y ∧ y < p) : 0 ≤ x * y ∧ x * y ≤ 900 := mul30 hp.2 hx.1 hx.2 hy.1 hy.2
/-- the line through two points, modulo p -/
def crsP (p : Int) (a b : Int × Int × Int) : List Int := [(a.2.1 * b.2.2 - a.2.2 * b.2.1) % p, (a.2.2 * b.1 - a.1 * b.2.2) % p, (a.1 * b.2.1 - a.2.1 * b.1) % p]
/-- numbers of a point -/
def inP (p : Int) (a : Int × Int × Int) : Prop := (0 ≤ a.1 ∧ a.1 < p) ∧ (0 ≤ a.2.1 ∧ a.2.1 < p) ∧ (0 ≤ a.2.2 ∧ a.2.2 < p)
theorem ptB_inP {p : Int} {a : Int × Int × Int} (h : ptB p a.1 a.2.1 a.2.2 = true) : inP p a := by
  rw [ptB, Bool.and_eq_true] at h
  have := (numsB_prime h.1).2.2
  exact ⟨this _ (by simp), this _ (by simp), this _ (by simp)⟩
theorem l4Cross_eq {p : Int} (hp : 7 ≤ p ∧ p ≤ 31) (a b : Int × Int × Int) (ha : inP p a) (hb : inP p b) : spec_l4Cross.f p a.1 a.2.1 a.2.2 b.1 b.2.1 b.2.2 = some (crsP p a b) := by
  obtain ⟨a0, a1, a2⟩ := ha
  obtain ⟨b0, b1, b2⟩ := hb
  have m1 := mul_bd hp a1 b2
  have m2 := mul_bd hp a2 b1
  have m3 := mul_bd hp a2 b0
  have m4 := mul_bd hp a0 b2
  have m5 := mul_bd hp a0 b1
  have m6 := mul_bd hp a1 b0
  unfold spec_l4Cross.f
  rw [wsm (i := a.2.1 * b.2.2) (by omega) (by omega), wsm (i := a.2.2 * b.2.1) (by omega) (by omega), wsm (i := a.2.2 * b.1) (by omega) (by omega), wsm (i := a.1 * b.2.2) (by omega) (by omega), wsm (i := a.1 * b.2.1) (by omega) (by omega), wsm (i := a.2.1 * b.1) (by omega) (by omega),
    l4Mod_eq _ _ (by omega), l4Mod_eq _ _ (by omega), l4Mod_eq _ _ (by omega), tmodW_small hp (by omega) (by omega), tmodW_small hp (by omega) (by omega), tmodW_small hp (by omega) (by omega)]
  rfl
theorem l4On_eq {p : Int} (hp : 7 ≤ p ∧ p ≤ 31) (a : Int × Int × Int) (ha : inP p a) (x y z : Int) (hx : 0 ≤ x ∧ x < p) (hy : 0 ≤ y ∧ y < p) (hz : 0 ≤ z ∧ z < p) : spec_l4On.f p a.1 a.2.1 a.2.2 [x, y, z] = some ((a.1 * x + a.2.1 * y + a.2.2 * z) % p == 0) := by
  obtain ⟨a0, a1, a2⟩ := ha
  have m1 := mul_bd hp a0 hx
  have m2 := mul_bd hp a1 hy
  have m3 := mul_bd hp a2 hz
  unfold spec_l4On.f
  rw [if_pos (by simp), if_pos (by simp), if_pos (by simp), if_neg (by omega)]
  simp only [rd, Int.toNat_zero, Int.toNat_one, show (2 : Int).toNat = 2 from rfl, List.getD_cons_zero, List.getD_cons_succ]
  rw [wsm (i := a.1 * x) (by omega) (by omega), wsm (i := a.2.1 * y) (by omega) (by omega), wsm (i := a.2.2 * z) (by omega) (by omega), wsm (i := a.1 * x + a.2.1 * y) (by omega) (by omega), wsm (by omega) (by omega), Int.tmod_eq_emod_of_nonneg (by omega)]
/-- three points on a line -/
def colB (p : Int) (a b c : Int × Int × Int) : Bool := (c.1 * (a.2.1 * b.2.2 - a.2.2 * b.2.1) + c.2.1 * (a.2.2 * b.1 - a.1 * b.2.2) + c.2.2 * (a.1 * b.2.1 - a.2.1 * b.1)) % p == 0
theorem mod3 (p x y z u v w : Int) : (x * (u % p) + y * (v % p) + z * (w % p)) % p = (x * u + y * v + z * w) % p := by
  have e : x * (u % p) + y * (v % p) + z * (w % p) = x * u + y * v + z * w + p * (-(x * (u / p) + y * (v / p) + z * (w / p))) := by
    simp only [Int.emod_def]; grind
  rw [e, Int.add_mul_emod_self_left]
theorem on_cross {p : Int} (hp : 7 ≤ p ∧ p ≤ 31) (a b c : Int × Int × Int) (hc : inP p c) : spec_l4On.f p c.1 c.2.1 c.2.2 (crsP p a b) = some (colB p a b c) := by
  have hm : ∀ y : Int, 0 ≤ y % p ∧ y % p < p := fun y => ⟨Int.emod_nonneg _ (by omega), Int.emod_lt_of_pos _ (by omega)⟩
  rw [crsP, l4On_eq hp c hc _ _ _ (hm _) (hm _) (hm _), colB]
  congr 2
  exact mod3 p _ _ _ _ _ _

end Go.Proofs.Ytmgbpmihbljngaa.PA
namespace Go.Proofs.Ytmgbpmihbljngaa.PA
open Go.RowKit Go.Proofs.YtmgbpmihbljngaaW.PrintWords Go.Proofs.YtmgbpmihbljngaaW.PrintLast Go.Proofs.YtmgbpmihbljngaaW.PrintMore
set_option linter.unusedVariables false
set_option linter.unusedSimpArgs false

theorem l4Zero_l (l : List Int) (hl : l.length ≤ 1000000) : ∀ (d i : Nat), i + d = l.length → Ev (fun k => spec_l4Zero.l0 k l (i : Int)) ((l.drop i).all fun x => x == 0)
  | 0, i, h => by
    refine Ev.step (f := fun _ => some true) (fun k => ?_) ?_
    · rw [spec_l4Zero.l0, if_neg (by omega)]
    · rw [List.drop_eq_nil_of_le (by omega)]; exact Ev.now _
  | d + 1, i, h => by
    have ih := l4Zero_l l hl d (i + 1) (by omega)
    rw [rd_drop l i (by omega), List.all_cons]
    by_cases hz : rd l (i : Int) = 0
    · refine Ev.step (f := fun k => spec_l4Zero.l0 k l ((i + 1 : Nat) : Int)) (fun k => ?_) ?_
      · rw [spec_l4Zero.l0, if_pos (by omega), if_pos (by omega), if_pos hz, wsm (by omega) (by omega)]; rfl
      · simpa [hz] using ih
    · refine Ev.step (f := fun _ => some false) (fun k => ?_) ?_
      · rw [spec_l4Zero.l0, if_pos (by omega), if_pos (by omega), if_neg hz]
      · rw [show (rd l (i : Int) == 0) = false from beq_eq_false_iff_ne.2 hz]
        exact Ev.now false
theorem l4Zero_ev (l : List Int) (hl : l.length ≤ 1000000) : Ev (fun k => spec_l4Zero.f k l) (l.all fun x => x == 0) := by
  unfold spec_l4Zero.f
  simpa using l4Zero_l l hl l.length 0 (by omega)

end Go.Proofs.Ytmgbpmihbljngaa.PA
namespace Go.Proofs.Ytmgbpmihbljngaa.PA
open Go.RowKit Go.Proofs.YtmgbpmihbljngaaW.PrintWords Go.Proofs.YtmgbpmihbljngaaW.PrintLast Go.Proofs.YtmgbpmihbljngaaW.PrintMore
set_option linter.unusedVariables false
set_option linter.unusedSimpArgs false

theorem rowP_self {p : Int} (hp : primeB p = true) {l : List Int} (hr : ∀ x ∈ l, 0 ≤ x ∧ x < p) : (!(l.all fun x => x == 0) && decide (rowP p l = l)) = monicB l := by
  have hb := prime_bd hp
  unfold monicB rowP headP
  cases h : l.find? (fun x => x != 0) with
  | none =>
    have : (l.all fun x => x == 0) = true := by
      rw [List.all_eq_true]
      intro x hx
      have := List.find?_eq_none.1 h x hx
      simpa using this
    rw [this]; rfl
  | some y =>
    have hy := List.mem_of_find?_eq_some h
    have hy0 : y ≠ 0 := by simpa using List.find?_some h
    have hall : (l.all fun x => x == 0) = false := by
      rw [Bool.eq_false_iff]
      intro e
      exact hy0 (by simpa using List.all_eq_true.1 e y hy)
    rw [hall]
    simp only [Bool.not_false, Bool.true_and, Option.getD_some]
    rw [Bool.eq_iff_iff, decide_eq_true_iff, beq_iff_eq]
    constructor
    · intro e
      have e1 : y * invP p y % p = y := by
        have h2 : ∀ (m : List Int), (m.map fun x => x * invP p y % p) = m → y ∈ m → y * invP p y % p = y := by
          intro m
          induction m with
          | nil => intro _ h; simp at h
          | cons z m ih =>
            intro e h
            rw [List.map_cons] at e
            injection e with e1 e2
            rcases List.mem_cons.1 h with rfl | h
            · exact e1
            · exact ih e2 h
        exact h2 l e hy
      have := (invP_spec hp (hr y hy).1 (hr y hy).2).2.2.2.1 hy0
      rw [this] at e1
      rw [← e1]
    · intro e
      injection e with e
      subst e
      rw [invP_one hp]
      refine (List.map_congr_left (g := id) fun x hx => ?_).trans (List.map_id _)
      rw [Int.mul_one, Int.emod_eq_of_lt (hr x hx).1 (hr x hx).2]; rfl

end Go.Proofs.Ytmgbpmihbljngaa.PA
namespace Go.Proofs.Ytmgbpmihbljngaa.PA
open Go.RowKit Go.Proofs.YtmgbpmihbljngaaW.PrintWords Go.Proofs.YtmgbpmihbljngaaW.PrintLast Go.Proofs.YtmgbpmihbljngaaW.PrintMore
set_option linter.unusedVariables false
set_option linter.unusedSimpArgs false

theorem l4Is_ev {p : Int} (hp : primeB p = true) (x y z : Int) : Ev (fun k => spec_l4Is.f k p x y z) (ptB p x y z) := by
  have hb := prime_bd hp
  have hlin : ∀ x, linB p x = true ↔ 0 ≤ x ∧ x < p := fun x => by
    rw [linB, wsm (by omega) (by omega), Bool.and_eq_true, decide_eq_true_iff, decide_eq_true_iff]; omega
  have hno : ∀ w ∈ [x, y, z], ¬ linB p w = true → ptB p x y z = false := fun w hw hn => by
    cases hh : ptB p x y z with
    | false => rfl
    | true =>
      rw [ptB, Bool.and_eq_true] at hh
      exact absurd ((hlin w).2 ((numsB_prime hh.1).2.2 w hw)) hn
  unfold spec_l4Is.f
  by_cases h1 : linB p x = true
  · refine Ev.yes h1 ?_
    by_cases h2 : linB p y = true
    · refine Ev.yes h2 ?_
      by_cases h3 : linB p z = true
      · refine Ev.yes h3 ?_
        have hr : ∀ w ∈ [x, y, z], 0 ≤ w ∧ w < p := fun w hw => by
          simp only [List.mem_cons, List.not_mem_nil, or_false] at hw
          rcases hw with rfl | rfl | rfl
          · exact (hlin _).1 h1
          · exact (hlin _).1 h2
          · exact (hlin _).1 h3
        refine Ev.bind (l4Row_ev hp [x, y, z] hr (by simp)) (Ev.bind (l4Zero_ev _ (by simp [rowP])) ?_)
        have hn : numsB p [x, y, z] 3 = true := numsB_mk hp rfl hr
        rw [rowP_zero hp hr, ptB, hn, Bool.true_and, ← rowP_self hp hr]
        cases hz : [x, y, z].all (fun x => x == 0) with
        | true => exact Ev.yes rfl (Ev.now _)
        | false =>
          refine Ev.no (by simp) (Ev.yes (by simp [rowP]) ?_)
          have e : ((rd (rowP p [x, y, z]) 0 == x) && (rd (rowP p [x, y, z]) 1 == y) && (rd (rowP p [x, y, z]) 2 == z)) = (!false && decide (rowP p [x, y, z] = [x, y, z])) := by
            rw [Bool.eq_iff_iff]
            simp [rowP, rd, and_assoc]
          rw [← e]
          exact Ev.now _
      · rw [hno z (by simp) h3]; exact Ev.no h3 (Ev.now _)
    · rw [hno y (by simp) h2]; exact Ev.no h2 (Ev.now _)
  · rw [hno x (by simp) h1]; exact Ev.no h1 (Ev.now _)

end Go.Proofs.Ytmgbpmihbljngaa.PA
namespace Go.Proofs.Ytmgbpmihbljngaa.PA
open Go.RowKit Go.Proofs.YtmgbpmihbljngaaW.PrintWords Go.Proofs.YtmgbpmihbljngaaW.PrintLast Go.Proofs.YtmgbpmihbljngaaW.PrintMore
set_option linter.unusedVariables false
set_option linter.unusedSimpArgs false

theorem PointIn_ev (p x y z : Int) : Ev (fun k => spec_PointIn.f k p x y z) (ptB p x y z) := by
  unfold spec_PointIn.f
  refine Ev.bind (Ev.k (PrimeIn_eq p)) ?_
  cases hp : primeB p with
  | true => exact Ev.yes rfl (Ev.bind (l4Is_ev hp x y z) (Ev.now _))
  | false =>
    rw [show ptB p x y z = false by simp [ptB, numsB, hp]]
    exact Ev.no (by simp) (Ev.now _)

end Go.Proofs.Ytmgbpmihbljngaa.PA
namespace Go.Proofs.Ytmgbpmihbljngaa.PA
open Go.RowKit Go.Proofs.YtmgbpmihbljngaaW.PrintWords Go.Proofs.YtmgbpmihbljngaaW.PrintLast Go.Proofs.YtmgbpmihbljngaaW.PrintMore
set_option linter.unusedVariables false
set_option linter.unusedSimpArgs false

/-- a point as three numbers -/
def tpl (x : S43) : Int × Int × Int := (x.f0.f0, x.f0.f1, x.f0.f2)
def tps (l : List S43) : List (Int × Int × Int) := l.map tpl
theorem tpl_at (l : List S43) (i : Nat) (hi : i < l.length) : tpl (rd_T43 l (i : Int)) = (tps l).getD i (0, 0, 0) := by
  simp [rd_T43, tps, List.getD_eq_getElem?_getD, hi]
def allN (f : Nat → Bool) : Nat → Nat → Bool
  | 0, _ => true
  | d + 1, i => f i && allN f d (i + 1)
theorem allN_iff (f : Nat → Bool) : ∀ d i, allN f d i = true ↔ ∀ j, i ≤ j → j < i + d → f j = true
  | 0, i => by simp [allN]; omega
  | d + 1, i => by
    rw [allN, Bool.and_eq_true, allN_iff f d (i + 1)]
    constructor
    · intro h j h1 h2
      by_cases e : j = i
      · subst e; exact h.1
      · exact h.2 j (by omega) (by omega)
    · intro h
      exact ⟨h i (by omega) (by omega), fun j h1 h2 => h j (by omega) (by omega)⟩
/-- no point before point i is on a line with it and a third one -/
def apI (p : Int) (Q : List (Int × Int × Int)) (i : Nat) : Bool := ptB p (Q.getD i (0, 0, 0)).1 (Q.getD i (0, 0, 0)).2.1 (Q.getD i (0, 0, 0)).2.2 && allN (fun k => allN (fun j => !colB p (Q.getD k (0, 0, 0)) (Q.getD j (0, 0, 0)) (Q.getD i (0, 0, 0))) k 0) i 0
/-- points of which no three are on one line -/
def apartB (p : Int) (Q : List (Int × Int × Int)) : Bool := allN (apI p Q) Q.length 0
theorem l4Apart_ev {p : Int} (hp : primeB p = true) (l : List S43) (hl : l.length ≤ 1000000) : Ev (fun k => spec_l4Apart.f k p l) (apartB p (tps l)) := by
  have hb := prime_bd hp
  have hlen : (tps l).length = l.length := by simp [tps]
  have hpt : ∀ (i : Nat), i < l.length → Ev (fun k => spec_PointIn.f k p (rd_T43 l (i : Int)).f0.f0 (rd_T43 l (i : Int)).f0.f1 (rd_T43 l (i : Int)).f0.f2) (ptB p ((tps l).getD i (0, 0, 0)).1 ((tps l).getD i (0, 0, 0)).2.1 ((tps l).getD i (0, 0, 0)).2.2) := fun i hi => by
    rw [← tpl_at l i hi]; exact PointIn_ev _ _ _ _
  -- the inner loop
  have h2 : ∀ (i k : Nat) (R : Bool), i < l.length → k < i → (∀ j, j < i → inP p ((tps l).getD j (0, 0, 0))) → inP p ((tps l).getD i (0, 0, 0)) → Ev (fun q => spec_l4Apart.l1 q p l (i : Int) ((k + 1 : Nat) : Int)) R → ∀ (d j : Nat), j + d = k → Ev (fun q => spec_l4Apart.l2 q p l (i : Int) (k : Int) (j : Int)) (allN (fun j => !colB p ((tps l).getD k (0, 0, 0)) ((tps l).getD j (0, 0, 0)) ((tps l).getD i (0, 0, 0))) d j && R) := by
    intro i k R hi hk hin hii hend d
    induction d with
    | zero =>
      intro j hj
      refine Ev.step (fun q => by rw [spec_l4Apart.l2, if_neg (by omega), wsm (by omega) (by omega)]) ?_
      rw [allN, Bool.true_and]
      exact hend
    | succ d ih =>
      intro j hj
      have e1 : ∀ m : Nat, m < l.length → (rd_T43 l (m : Int)).f0.f0 = ((tps l).getD m (0, 0, 0)).1 ∧ (rd_T43 l (m : Int)).f0.f1 = ((tps l).getD m (0, 0, 0)).2.1 ∧ (rd_T43 l (m : Int)).f0.f2 = ((tps l).getD m (0, 0, 0)).2.2 := fun m hm => by rw [← tpl_at l m hm]; exact ⟨rfl, rfl, rfl⟩
      obtain ⟨a1, a2, a3⟩ := e1 i hi
      obtain ⟨b1, b2, b3⟩ := e1 k (by omega)
      obtain ⟨c1, c2, c3⟩ := e1 j (by omega)
      refine Ev.step (fun q => by rw [spec_l4Apart.l2, if_pos (by omega), if_pos (by omega), if_pos (by omega), if_pos (by omega), if_pos (by omega), if_pos (by omega), if_pos (by omega), a1, a2, a3, b1, b2, b3, c1, c2, c3, l4Cross_eq ⟨by omega, by omega⟩ _ _ (hin k hk) (hin j (by omega)), Option.bind_some, on_cross ⟨by omega, by omega⟩ _ _ _ hii, Option.bind_some, wsm (by omega) (by omega)]) ?_
      rw [allN]
      cases hc : colB p ((tps l).getD k (0, 0, 0)) ((tps l).getD j (0, 0, 0)) ((tps l).getD i (0, 0, 0)) with
      | true => exact Ev.yes rfl (Ev.now _)
      | false =>
        refine Ev.no (by simp) ?_
        have := ih (j + 1) (by omega)
        simpa using this
  have h1 : ∀ (i : Nat) (R : Bool), i < l.length → (∀ j, j < i → inP p ((tps l).getD j (0, 0, 0))) → inP p ((tps l).getD i (0, 0, 0)) → Ev (fun q => spec_l4Apart.l0 q p l ((i + 1 : Nat) : Int)) R → ∀ (d k : Nat), k + d = i → Ev (fun q => spec_l4Apart.l1 q p l (i : Int) (k : Int)) (allN (fun k => allN (fun j => !colB p ((tps l).getD k (0, 0, 0)) ((tps l).getD j (0, 0, 0)) ((tps l).getD i (0, 0, 0))) k 0) d k && R) := by
    intro i R hi hin hii hend d
    induction d with
    | zero =>
      intro k hk
      refine Ev.step (fun q => by rw [spec_l4Apart.l1, if_neg (by omega), wsm (by omega) (by omega)]) ?_
      rw [allN, Bool.true_and]
      exact hend
    | succ d ih =>
      intro k hk
      refine Ev.step (fun q => by rw [spec_l4Apart.l1, if_pos (by omega)]) ?_
      have := h2 i k _ hi (by omega) hin hii (ih (k + 1) (by omega)) k 0 (by omega)
      rw [allN, Bool.and_assoc]
      simpa using this
  have h0 : ∀ (d i : Nat), i + d = l.length → (∀ j, j < i → inP p ((tps l).getD j (0, 0, 0))) → Ev (fun q => spec_l4Apart.l0 q p l (i : Int)) (allN (apI p (tps l)) d i) := by
    intro d
    induction d with
    | zero =>
      intro i hi _
      exact Ev.step (f := fun _ => some true) (fun q => by rw [spec_l4Apart.l0, if_neg (by omega)]) (Ev.now _)
    | succ d ih =>
      intro i hi hin
      refine Ev.step (fun q => by rw [spec_l4Apart.l0, if_pos (by omega), if_pos (by omega)]) (Ev.bind (hpt i (by omega)) ?_)
      rw [allN, apI]
      cases hc : ptB p ((tps l).getD i (0, 0, 0)).1 ((tps l).getD i (0, 0, 0)).2.1 ((tps l).getD i (0, 0, 0)).2.2 with
      | false => exact Ev.no (by simp) (Ev.now _)
      | true =>
        refine Ev.yes rfl ?_
        have hii := ptB_inP hc
        have := h1 i _ (by omega) hin hii (ih (i + 1) (by omega) fun j hj => by
          by_cases e : j = i
          · subst e; exact hii
          · exact hin j (by omega)) i 0 (by omega)
        simpa using this
  unfold spec_l4Apart.f apartB
  rw [hlen]
  exact h0 l.length 0 (by omega) (fun j hj => absurd hj (by omega))
theorem apart_not {p : Int} (hp : primeB p = false) (Q : List (Int × Int × Int)) (h : 0 < Q.length) : apartB p Q = false := by
  obtain ⟨n, hn⟩ : ∃ n, Q.length = n + 1 := ⟨Q.length - 1, by omega⟩
  rw [apartB, hn, allN, apI]
  simp [ptB, numsB, hp]
theorem l4Apart_none {p : Int} (hp : primeB p = false) (l : List S43) (h : 0 < l.length) : Ev (fun k => spec_l4Apart.f k p l) false := by
  unfold spec_l4Apart.f
  refine Ev.step (fun q => by rw [spec_l4Apart.l0, if_pos (by omega), if_pos (by omega)]) (Ev.bind (PointIn_ev _ _ _ _) ?_)
  rw [show ptB p _ _ _ = false by simp [ptB, numsB, hp]]
  exact Ev.no (by simp) (Ev.now _)
theorem apart_facts {p : Int} {Q : List (Int × Int × Int)} (h : apartB p Q = true) : (∀ i, i < Q.length → ptB p (Q.getD i (0, 0, 0)).1 (Q.getD i (0, 0, 0)).2.1 (Q.getD i (0, 0, 0)).2.2 = true) ∧ ∀ i k j, i < Q.length → k < i → j < k → colB p (Q.getD k (0, 0, 0)) (Q.getD j (0, 0, 0)) (Q.getD i (0, 0, 0)) = false := by
  rw [apartB, allN_iff] at h
  have h1 : ∀ i, i < Q.length → apI p Q i = true := fun i hi => h i (by omega) (by omega)
  refine ⟨fun i hi => ?_, fun i k j hi hk hj => ?_⟩
  · have := h1 i hi
    rw [apI, Bool.and_eq_true] at this
    exact this.1
  · have := h1 i hi
    rw [apI, Bool.and_eq_true, allN_iff] at this
    have h2 := this.2 k (by omega) (by omega)
    rw [allN_iff] at h2
    simpa using h2 j (by omega) (by omega)

end Go.Proofs.Ytmgbpmihbljngaa.PA
namespace Go.Proofs.Ytmgbpmihbljngaa.PA
open Go.RowKit Go.Proofs.YtmgbpmihbljngaaW.PrintWords Go.Proofs.YtmgbpmihbljngaaW.PrintLast Go.Proofs.YtmgbpmihbljngaaW.PrintMore
set_option linter.unusedVariables false
set_option linter.unusedSimpArgs false

/-- the sum of the products of numbers, at the places below w -/
def dt (w : Nat) (u v : Nat → Int) : Int := ((List.range w).map fun j => u j * v j).sum
theorem sum_lin {α : Type} (f g : α → Int) (t : Int) : ∀ l : List α, (l.map fun x => f x + t * g x).sum = (l.map f).sum + t * (l.map g).sum
  | [] => by simp
  | x :: l => by
    rw [List.map_cons, List.map_cons, List.map_cons, List.sum_cons, List.sum_cons, List.sum_cons, sum_lin f g t l, Int.mul_add]; omega
theorem sum_cong {p : Int} {α : Type} (f g : α → Int) : ∀ l : List α, (∀ x ∈ l, p ∣ f x - g x) → p ∣ (l.map f).sum - (l.map g).sum
  | [], _ => by simp
  | x :: l, h => by
    rw [List.map_cons, List.map_cons, List.sum_cons, List.sum_cons]
    exact dvd_lin 1 1 (h x (by simp)) (sum_cong f g l fun y hy => h y (by simp [hy])) (by omega)
theorem dt_cong {p : Int} {w : Nat} {u u' v v' : Nat → Int} (hu : ∀ j, j < w → p ∣ u j - u' j) (hv : ∀ j, j < w → p ∣ v j - v' j) : p ∣ dt w u v - dt w u' v' :=
  sum_cong _ _ _ fun j hj => by
    have hj' : j < w := by simpa using hj
    exact dvd_lin (v j) (u' j) (hu j hj') (hv j hj') (by grind)
theorem dt_sp {p : Int} {w : Nat} {L : List (List Int)} {v : Nat → Int} (h : ∀ r ∈ L, p ∣ dt w (fn r) v) {u : Nat → Int} (hu : Sp p w L u) : p ∣ dt w u v := by
  induction hu with
  | zero u hz =>
    refine sum_dvd _ fun y hy => ?_
    obtain ⟨j, hj, rfl⟩ := List.mem_map.1 hy
    exact Int.dvd_mul_of_dvd_left (hz j (by simpa using hj))
  | add u u' r t hr _ h2 ih =>
    have h3 := dt_cong (v := v) (v' := v) h2 (fun j _ => by simp)
    have e : dt w (fun j => u' j + t * fn r j) v = dt w u' v + t * dt w (fn r) v := by
      rw [dt, dt, dt, ← sum_lin]
      congr 1
      exact List.map_congr_left fun j _ => by grind
    rw [e] at h3
    exact dvd_lin 1 1 h3 (dvd_lin 1 t ih (h r hr) rfl) (by omega)
theorem sum_part {α : Type} (f : α → Int) (q : α → Bool) : ∀ l : List α, (l.map f).sum = ((l.filter q).map f).sum + ((l.filter fun x => !q x).map f).sum
  | [] => rfl
  | x :: l => by
    have ih := sum_part f q l
    cases h : q x <;> simp [h, ih] <;> omega
theorem free_not {P : List (Nat × List Int)} {c : Nat} (h : freeC P c = true) : ∀ z ∈ P, z.1 ≠ c := fun z hz e => by
  have : P.any (fun z => z.1 == c) = true := List.any_eq_true.2 ⟨z, hz, by simp [e]⟩
  rw [freeC, this] at h; simp at h
theorem free_of {P : List (Nat × List Int)} {c : Nat} (h : ¬ ∃ z ∈ P, z.1 = c) : freeC P c = true := by
  rw [freeC]
  cases h2 : P.any (fun z => z.1 == c) with
  | false => rfl
  | true =>
    obtain ⟨z, hz, e⟩ := List.any_eq_true.1 h2
    exact absurd ⟨z, hz, by simpa using e⟩ h
theorem nodup_split {l : List Nat} (hn : l.Nodup) {x : Nat} (hx : x ∈ l) : ∃ A B, l = A ++ x :: B ∧ (∀ y ∈ A, y ≠ x) ∧ ∀ y ∈ B, y ≠ x := by
  obtain ⟨A, B, rfl⟩ := List.append_of_mem hx
  rw [List.nodup_append, List.nodup_cons] at hn
  exact ⟨A, B, rfl, fun y hy e => hn.2.2 y hy x (by simp) e, fun y hy e => hn.2.1.1 (e ▸ hy)⟩
/-- a reduced row's product with v: v's number at its column, and those at the free columns -/
theorem dt_row {p : Int} {w : Nat} {P : List (Nat × List Int)} (h : Rref p w P) {x : Nat × List Int} (hx : x ∈ P) (v : Nat → Int) : dt w (fn x.2) v = v x.1 + (((List.range w).filter (freeC P)).map fun c => fn x.2 c * v c).sum := by
  rw [dt, sum_part _ (freeC P)]
  have hm : x.1 ∈ (List.range w).filter fun c => !freeC P c := by
    rw [List.mem_filter]
    refine ⟨by simpa using h.lt x hx, ?_⟩
    cases hf : freeC P x.1 with
    | false => rfl
    | true => exact absurd rfl (free_not hf x hx)
  obtain ⟨A, B, e, ha, hb⟩ := nodup_split (List.Nodup.sublist List.filter_sublist List.nodup_range) hm
  have hz : ∀ c, c ∈ (List.range w).filter (fun c => !freeC P c) → c ≠ x.1 → fn x.2 c * v c = 0 := fun c hc hne => by
    have hnf : freeC P c = false := by have := (List.mem_filter.1 hc).2; simpa using this
    have hex : ∃ z ∈ P, z.1 = c := by
      by_cases he : ∃ z ∈ P, z.1 = c
      · exact he
      · rw [free_of he] at hnf; simp at hnf
    obtain ⟨z, hz, rfl⟩ := hex
    rw [h.off x hx z hz (Ne.symm hne), Int.zero_mul]
  have h1 := sum_one (fun c => fn x.2 c * v c) x.1 A B (fun y hy => hz y (by rw [e]; simp [hy]) (ha y hy)) (fun y hy => hz y (by rw [e]; simp [hy]) (hb y hy))
  rw [e, h1, h.one x hx]; omega
/-- the lists of free columns have products 0 with the rows -/
theorem null_sound {p : Int} {w : Nat} {P : List (Nat × List Int)} (h : Rref p w P) {x : Nat × List Int} (hx : x ∈ P) {r : List Int} (hr : r ∈ nullRows p w P) : p ∣ dt w (fn x.2) (fn r) := by
  obtain ⟨c, hc, rfl⟩ := List.mem_map.1 hr
  have hcw : c < w := by have := (List.mem_filter.1 hc).1; simpa using this
  rw [dt_row h hx, nullVec_on h c hx]
  obtain ⟨A, B, e, ha, hb⟩ := nodup_split (List.Nodup.sublist List.filter_sublist List.nodup_range) hc
  have hz : ∀ j, j ∈ (List.range w).filter (freeC P) → j ≠ c → fn x.2 j * fn (nullVec p w P c) j = 0 := fun j hj hne => by
    rw [nullVec_off h hcw (free_not (List.mem_filter.1 hj).2), if_neg hne, Int.mul_zero]
  have h1 := sum_one (fun j => fn x.2 j * fn (nullVec p w P c) j) c A B (fun y hy => hz y (by rw [e]; simp [hy]) (ha y hy)) (fun y hy => hz y (by rw [e]; simp [hy]) (hb y hy))
  rw [e, h1, nullVec_off h hcw (free_not (List.mem_filter.1 hc).2), if_pos rfl]
  exact dvd_one (-1) (dvd_emod (-(fn x.2 c)) p) (by omega)
/-- what has products 0 with the rows is a combination of these lists -/
theorem null_complete {p : Int} {w : Nat} {P : List (Nat × List Int)} (h : Rref p w P) {v : Nat → Int} (hv : ∀ x ∈ P, p ∣ dt w (fn x.2) v) : Sp p w (nullRows p w P) v := by
  have hsp : ∀ l : List Nat, (∀ c ∈ l, c ∈ (List.range w).filter (freeC P)) → Sp p w (nullRows p w P) fun j => (l.map fun c => v c * fn (nullVec p w P c) j).sum := by
    intro l
    induction l with
    | nil => intro _; exact .zero _ fun j _ => by simp
    | cons c l ih =>
      intro hl
      exact .add _ _ (nullVec p w P c) (v c) (List.mem_map.2 ⟨c, hl c (by simp), rfl⟩) (ih fun d hd => hl d (by simp [hd])) fun j _ => by
        rw [List.map_cons, List.sum_cons]; exact ⟨0, by omega⟩
  refine (hsp _ fun c hc => hc).congr fun j hj => ?_
  by_cases hex : ∃ x ∈ P, x.1 = j
  · obtain ⟨x, hx, rfl⟩ := hex
    have h1 := hv x hx
    rw [dt_row h hx] at h1
    have h2 : p ∣ (((List.range w).filter (freeC P)).map fun c => v c * fn (nullVec p w P c) x.1).sum - (((List.range w).filter (freeC P)).map fun c => 0 + (-1) * (fn x.2 c * v c)).sum := by
      refine sum_cong _ _ _ fun c hc => ?_
      rw [nullVec_on h c hx]
      exact dvd_one (-(v c)) (dvd_emod (-(fn x.2 c)) p) (by grind)
    have e3 : (((List.range w).filter (freeC P)).map fun c => 0 + (-1) * (fn x.2 c * v c)).sum = (-1) * (((List.range w).filter (freeC P)).map fun c => fn x.2 c * v c).sum := by
      have := sum_lin (fun _ : Nat => (0 : Int)) (fun c => fn x.2 c * v c) (-1) ((List.range w).filter (freeC P))
      rw [this]
      have hz : ∀ l : List Nat, (l.map fun _ => (0 : Int)).sum = 0 := fun l => by induction l with
        | nil => rfl
        | cons a l ih => simpa using ih
      rw [hz]; omega
    rw [e3] at h2
    exact dvd_lin 1 (-1) h1 h2 (by omega)
  · have hjf : j ∈ (List.range w).filter (freeC P) := List.mem_filter.2 ⟨by simpa using hj, free_of hex⟩
    obtain ⟨A, B, e, ha, hb⟩ := nodup_split (List.Nodup.sublist List.filter_sublist List.nodup_range) hjf
    have hz : ∀ c, c ∈ (List.range w).filter (freeC P) → c ≠ j → v c * fn (nullVec p w P c) j = 0 := fun c hc hne => by
      have hcw : c < w := by have := (List.mem_filter.1 hc).1; simpa using this
      rw [nullVec_off h hcw (fun z hz e => hex ⟨z, hz, e⟩), if_neg (Ne.symm hne), Int.mul_zero]
    have h1 := sum_one (fun c => v c * fn (nullVec p w P c) j) j A B (fun y hy => hz y (by rw [e]; simp [hy]) (ha y hy)) (fun y hy => hz y (by rw [e]; simp [hy]) (hb y hy))
    show p ∣ v j - (((List.range w).filter (freeC P)).map fun c => v c * fn (nullVec p w P c) j).sum
    rw [e, h1, nullVec_off h hj (fun z hz e => hex ⟨z, hz, e⟩), if_pos rfl]
    exact ⟨0, by omega⟩
theorem free_exists {p : Int} {w : Nat} {P : List (Nat × List Int)} (h : Rref p w P) (hl : P.length < w) : ∃ c, c < w ∧ freeC P c = true := by
  by_cases hex : ∃ c, c < w ∧ freeC P c = true
  · exact hex
  · exfalso
    have h1 := len_le_of_keys (P := (List.range w).map fun c => (c, ([] : List Int))) (Q := P) (by rw [List.pairwise_map]; exact List.pairwise_lt_range) h.inc (fun x hx => by
      obtain ⟨c, hc, rfl⟩ := List.mem_map.1 hx
      have hcw : c < w := by simpa using hc
      by_cases he : ∃ z ∈ P, z.1 = c
      · exact he
      · exact absurd ⟨c, hcw, free_of he⟩ hex)
    simp at h1
    omega

end Go.Proofs.Ytmgbpmihbljngaa.PA
namespace Go.Proofs.Ytmgbpmihbljngaa.PA
open Go.RowKit Go.Proofs.YtmgbpmihbljngaaW.PrintWords Go.Proofs.YtmgbpmihbljngaaW.PrintLast Go.Proofs.YtmgbpmihbljngaaW.PrintMore
set_option linter.unusedVariables false
set_option linter.unusedSimpArgs false

theorem s_map_snd (P : List (Nat × List Int)) (i : Nat) (hi : i < P.length) : rd_L4 (P.map Prod.snd) (i : Int) = (P[i]).2 := by
  simp [rd_L4, List.getD_eq_getElem?_getD, hi]
theorem s_map_fst (P : List (Nat × List Int)) (i : Nat) (hi : i < P.length) : rd (P.map fun x => (x.1 : Int)) (i : Int) = ((P[i]).1 : Int) := by
  simp [rd, List.getD_eq_getElem?_getD, hi]
theorem s_rref_len {p : Int} {w : Nat} {P : List (Nat × List Int)} (h : Rref p w P) : P.length ≤ w := by
  have h1 := len_le_of_keys (P := P) (Q := (List.range w).map fun c => (c, ([] : List Int))) h.inc (by rw [List.pairwise_map]; exact List.pairwise_lt_range) (fun x hx => ⟨(x.1, []), List.mem_map.2 ⟨x.1, by simpa using h.lt x hx, rfl⟩, rfl⟩)
  simpa using h1
theorem s_neg {p : Int} (hp : primeB p = true) {x : Int} (h0 : 0 ≤ x) (h1 : x < p) : spec_l4Mod.f p (wrap64 (-x)) = some ((-x) % p) := by
  have hb := prime_bd hp
  rw [l4Mod_eq p _ (by omega), tmodW_small ⟨by omega, by omega⟩ (by omega) (by omega)]
/-- one list -/
theorem nulS_one {p : Int} (hp : primeB p = true) {w : Nat} (hw : w ≤ 1000) {P : List (Nat × List Int)} (h : Rref p w P) {c q : Nat} (hc : c < w) {O : List (List Int)} (hO : O.length ≤ 1000) {R : List (List Int)} : ∀ (d i : Nat) (v V : List Int), i + d = P.length → v.length = w → nullFold p c (P.drop i) v = V →
    Ev (fun k => spec_l4Null.l0 k p (w : Int) (P.map Prod.snd) (P.map fun x => (x.1 : Int)) (O ++ [V]) (q : Int) ((c + 1 : Nat) : Int)) R →
    Ev (fun k => spec_l4Null.l1 k p (w : Int) (P.map Prod.snd) (P.map fun x => (x.1 : Int)) O (q : Int) (c : Int) v (i : Int)) R
  | 0, i, v, V, e, hv, hV, hend => by
    rw [List.drop_eq_nil_of_le (by omega), nullFold] at hV
    subst hV
    refine Ev.step (fun k => by rw [spec_l4Null.l1, if_neg (by rw [List.length_map]; omega), if_pos (by omega), wsm (by omega) (by omega)]) ?_
    simpa using hend
  | d + 1, i, v, V, e, hv, hV, hend => by
    have hi : i < P.length := by omega
    have hle := s_rref_len h
    have hm := List.getElem_mem hi
    have hlen := (h.ok _ hm).1
    have hlt := h.lt _ hm
    have hr := fn_range (h.ok _ hm) c hc
    rw [fn] at hr
    rw [List.drop_eq_getElem_cons hi, nullFold] at hV
    refine Ev.step (fun k => by rw [spec_l4Null.l1, if_pos (by rw [List.length_map]; omega), if_pos (by omega), if_pos (by rw [List.length_map]; omega), if_pos (by omega), s_map_snd P i hi, if_pos (by omega), s_map_fst P i hi, s_neg hp hr.1 hr.2]) ?_
    refine Ev.bind (a := (-(rd (P[i]).2 (c : Int))) % p) (Ev.now _) (Ev.yes (by omega) (Ev.yes (by omega) ?_))
    have ih := nulS_one hp hw h hc hO d (i + 1) (v.set (P[i]).1 ((-(rd (P[i]).2 (c : Int))) % p)) V (by omega) (by rw [List.length_set]; exact hv) hV hend
    rw [wsm (by omega) (by omega)]
    simpa using ih
theorem nulS_free {P : List (Nat × List Int)} {c q : Nat} (h1 : ∀ j : Nat, ∀ hj : j < P.length, j < q → (P[j]).1 < c) (h2 : ∀ j : Nat, ∀ hj : j < P.length, q ≤ j → c < (P[j]).1) : freeC P c = true := free_of (by
  rintro ⟨z, hz, e⟩
  obtain ⟨j, hj, rfl⟩ := List.mem_iff_getElem.1 hz
  rcases Nat.lt_or_ge j q with h | h
  · have := h1 j hj h; omega
  · have := h2 j hj h; omega)
/-- the columns -/
theorem nulS_cols {p : Int} (hp : primeB p = true) {w : Nat} (hw : w ≤ 1000) {P : List (Nat × List Int)} (h : Rref p w P) : ∀ (d c q : Nat) (O : List (List Int)), c + d = w → q ≤ P.length → (∀ j : Nat, ∀ hj : j < P.length, j < q → (P[j]).1 < c) → (∀ j : Nat, ∀ hj : j < P.length, q ≤ j → c ≤ (P[j]).1) → O = (((List.range c).filter (freeC P)).map (nullVec p w P)) →
    Ev (fun k => spec_l4Null.l0 k p (w : Int) (P.map Prod.snd) (P.map fun x => (x.1 : Int)) O (q : Int) (c : Int)) (redP p w 0 (nullRows p w P) [])
  | 0, c, q, O, e, hq, h1, h2, hO => by
    obtain rfl : c = w := by omega
    have hb := prime_bd hp
    refine Ev.step (fun k => by rw [spec_l4Null.l0, if_neg (by omega)]) ?_
    have hlen : O.length < 1000000 := by
      rw [hO, List.length_map]
      have := List.length_filter_le (freeC P) (List.range c)
      simp at this; omega
    have hok := nullRows_ok (p := p) (by omega) h
    subst hO
    exact Ev.bind (l4Reduce_ev hp hw _ hok hlen) (Ev.now _)
  | d + 1, c, q, O, e, hq, h1, h2, hO => by
    have hle := s_rref_len h
    have hOl : O.length ≤ 1000 := by
      rw [hO, List.length_map]
      have := List.length_filter_le (freeC P) (List.range c)
      simp at this; omega
    have hsucc : (List.range (c + 1)).filter (freeC P) = (List.range c).filter (freeC P) ++ (if freeC P c = true then [c] else []) := by
      rw [List.range_succ, List.filter_append]
      congr 1
      cases hf : freeC P c <;> simp [hf]
    have hnot : (∀ j : Nat, ∀ hj : j < P.length, q ≤ j → c < (P[j]).1) → Ev (fun k => spec_l4Null.j1 k p (w : Int) (P.map Prod.snd) (P.map fun x => (x.1 : Int)) O (q : Int) (c : Int) false) (redP p w 0 (nullRows p w P) []) := fun h3 => by
      have hf := nulS_free h1 h3
      refine Ev.step (fun k => by rw [spec_l4Null.j1, if_neg (by simp)]) ?_
      refine (Ev.yes (by omega) (Ev.yes (by omega) (Ev.bind (a := List.replicate w 0) (by simpa using Ev.now (List.replicate w (0 : Int))) (Ev.yes (by omega) (Ev.yes (by simp; omega) ?_)))))
      have hend := nulS_cols hp hw h d (c + 1) q (O ++ [nullVec p w P c]) (by omega) hq (fun j hj hjq => by have := h1 j hj hjq; omega) (fun j hj hjq => by have := h3 j hj hjq; omega) (by rw [hsucc, hf, hO]; simp)
      have := nulS_one hp hw h (c := c) (q := q) (by omega) hOl (R := redP p w 0 (nullRows p w P) []) P.length 0 ((List.replicate w 0).set c 1) (nullVec p w P c) (by omega) (by simp) (by rw [List.drop_zero]; rfl) hend
      simpa using this
    by_cases hql : q < P.length
    · refine Ev.step (fun k => by rw [spec_l4Null.l0, if_pos (by omega), if_pos (by rw [List.length_map]; omega), if_pos (by omega), s_map_fst P q hql]) ?_
      by_cases hh : (P[q]).1 = c
      · rw [show (((P[q]).1 : Int) == (c : Int)) = true from by simp [hh]]
        have hf : freeC P c = false := by
          cases hf : freeC P c with
          | false => rfl
          | true => exact absurd hh (free_not hf _ (List.getElem_mem hql))
        refine Ev.step (fun k => by rw [spec_l4Null.j1, if_pos rfl]) ?_
        rw [wsm (by omega) (by omega), wsm (by omega) (by omega)]
        refine nulS_cols hp hw h d (c + 1) (q + 1) O (by omega) (by omega) (fun j hj hjq => ?_) (fun j hj hjq => ?_) (by rw [hsucc, hf, hO]; simp)
        · rcases Nat.lt_succ_iff_lt_or_eq.1 hjq with h3 | h3
          · have := h1 j hj h3; omega
          · subst h3; omega
        · have hlt : q < j := by omega
          have := (List.pairwise_iff_getElem.1 h.inc) q j hql hj hlt
          omega
      · rw [show (((P[q]).1 : Int) == (c : Int)) = false from by simp; omega]
        refine hnot fun j hj hjq => ?_
        have hq2 := h2 q hql (Nat.le_refl _)
        rcases Nat.lt_or_ge q j with h3 | h3
        · have := (List.pairwise_iff_getElem.1 h.inc) q j hql hj h3
          omega
        · obtain rfl : j = q := by omega
          omega
    · refine Ev.step (fun k => by rw [spec_l4Null.l0, if_pos (by omega), if_neg (by rw [List.length_map]; omega)]) ?_
      exact hnot fun j hj hjq => by omega
theorem l4Null_ev {p : Int} (hp : primeB p = true) {w : Nat} (hw : w ≤ 1000) (L : List (List Int)) (hl : L.length < 1000000) (hL : okR p w L) : Ev (fun k => spec_l4Null.f k p L (w : Int)) (nullP p w L) := by
  obtain ⟨e1, e2, hP, _, _⟩ := pairsP_spec hp hL
  unfold spec_l4Null.f
  refine Ev.bind (l4Reduce_ev hp hw L hL hl) ?_
  rw [e1, e2]
  have h := nulS_cols (p := p) hp hw hP w 0 0 [] (by omega) (by omega) (fun j hj hjq => absurd hjq (by omega)) (fun j hj _ => by omega) (by simp)
  simpa [nullP] using h

end Go.Proofs.Ytmgbpmihbljngaa.PA
namespace Go.Proofs.Ytmgbpmihbljngaa.PA
open Go.RowKit Go.Proofs.YtmgbpmihbljngaaW.PrintWords Go.Proofs.YtmgbpmihbljngaaW.PrintLast Go.Proofs.YtmgbpmihbljngaaW.PrintMore
set_option linter.unusedVariables false
set_option linter.unusedSimpArgs false

/-- the six products of a point, modulo p -/
def sqR (p : Int) (t : Int × Int × Int) : List Int := [t.1 * t.1 % p, t.1 * t.2.1 % p, t.1 * t.2.2 % p, t.2.1 * t.2.1 % p, t.2.1 * t.2.2 % p, t.2.2 * t.2.2 % p]
theorem sqR_ok {p : Int} (hp : primeB p = true) (t : Int × Int × Int) : (sqR p t).length = 6 ∧ ∀ x ∈ sqR p t, 0 ≤ x ∧ x < p := by
  have hb := prime_bd hp
  have hm : ∀ y : Int, 0 ≤ y % p ∧ y % p < p := fun y => ⟨Int.emod_nonneg _ (by omega), Int.emod_lt_of_pos _ (by omega)⟩
  refine ⟨rfl, fun x hx => ?_⟩
  simp only [sqR, List.mem_cons, List.not_mem_nil, or_false] at hx
  rcases hx with rfl | rfl | rfl | rfl | rfl | rfl <;> exact hm _
theorem sq_ok {p : Int} (hp : primeB p = true) (Q : List (Int × Int × Int)) : okR p 6 (Q.map (sqR p)) := fun r hr => by
  obtain ⟨t, _, rfl⟩ := List.mem_map.1 hr
  exact sqR_ok hp t
theorem l4Squares_eq {p : Int} (hp : 7 ≤ p ∧ p ≤ 31) (a : Int × Int × Int) (ha : inP p a) : spec_l4Squares.f p a.1 a.2.1 a.2.2 = some (sqR p a) := by
  obtain ⟨a0, a1, a2⟩ := ha
  have m : ∀ {x y : Int}, (0 ≤ x ∧ x < p) → (0 ≤ y ∧ y < p) → Int.tmod (wrap64 (x * y)) p = x * y % p := fun hx hy => by
    have := mul_bd hp hx hy
    rw [wsm (by omega) (by omega), Int.tmod_eq_emod_of_nonneg this.1]
  unfold spec_l4Squares.f
  rw [if_neg (by omega), m a0 a0, m a0 a1, m a0 a2, m a1 a1, m a1 a2, m a2 a2]
  rfl
theorem l4Conics_ev {p : Int} (hp : primeB p = true) (l : List S43) (hl : l.length ≤ 1000) (hin : ∀ j, j < l.length → inP p ((tps l).getD j (0, 0, 0))) : Ev (fun k => spec_l4Conics.f k p l) (nullP p 6 ((tps l).map (sqR p))) := by
  have hb := prime_bd hp
  have hlen : (tps l).length = l.length := by simp [tps]
  have h0 : ∀ (d i : Nat) (acc : List (List Int)), i + d = l.length → acc = ((tps l).take i).map (sqR p) → Ev (fun q => spec_l4Conics.l0 q p l acc (i : Int)) (nullP p 6 ((tps l).map (sqR p))) := by
    intro d
    induction d with
    | zero =>
      intro i acc hi ha
      refine Ev.step (fun q => by rw [spec_l4Conics.l0, if_neg (by omega)]) ?_
      rw [List.take_of_length_le (by omega)] at ha
      subst ha
      have := l4Null_ev hp (w := 6) (by omega) _ (by rw [List.length_map]; omega) (sq_ok hp (tps l))
      exact Ev.bind this (Ev.now _)
    | succ d ih =>
      intro i acc hi ha
      have hil : i < l.length := by omega
      have e : spec_l4Squares.f p (rd_T43 l (i : Int)).f0.f0 (rd_T43 l (i : Int)).f0.f1 (rd_T43 l (i : Int)).f0.f2 = some (sqR p ((tps l).getD i (0, 0, 0))) := by
        have := l4Squares_eq (p := p) ⟨by omega, by omega⟩ _ (hin i hil)
        rw [← tpl_at l i hil] at this ⊢
        exact this
      have hal : acc.length ≤ 1000 := by rw [ha, List.length_map, List.length_take]; omega
      refine Ev.step (fun q => by rw [spec_l4Conics.l0, if_pos (by omega), if_pos (by omega), e, Option.bind_some, if_pos (by omega), wsm (by omega) (by omega)]) ?_
      refine ih (i + 1) _ (by omega) ?_
      rw [ha, List.take_add_one, List.map_append, List.getD_eq_getElem?_getD, List.getElem?_eq_getElem (by omega)]
      rfl
  unfold spec_l4Conics.f
  exact h0 l.length 0 [] (by omega) (by simp)
/-- six general points -/
def genB (p : Int) (Q : List (Int × Int × Int)) : Bool := decide (Q.length = 6) && apartB p Q && (nullP p 6 (Q.map (sqR p))).isEmpty
theorem genB_prime {p : Int} {Q : List (Int × Int × Int)} (h : genB p Q = true) : primeB p = true ∧ Q.length = 6 ∧ apartB p Q = true ∧ nullP p 6 (Q.map (sqR p)) = [] := by
  rw [genB, Bool.and_eq_true, Bool.and_eq_true, decide_eq_true_iff] at h
  obtain ⟨⟨h1, h2⟩, h3⟩ := h
  refine ⟨?_, h1, h2, by simpa using h3⟩
  cases hp : primeB p with
  | true => rfl
  | false => rw [apart_not hp Q (by omega)] at h2; exact absurd h2 (by simp)
theorem PointGeneral_ev (p : Int) (l : List S43) : Ev (fun k => spec_PointGeneral.f k p l) (genB p (tps l)) := by
  have hlen : (tps l).length = l.length := by simp [tps]
  unfold spec_PointGeneral.f
  by_cases h6 : l.length = 6
  · refine Ev.yes (by omega) ?_
    rw [genB, hlen, decide_eq_true h6, Bool.true_and]
    cases hp : primeB p with
    | false =>
      rw [apart_not hp _ (by omega)]
      exact Ev.bind (l4Apart_none hp l (by omega)) (Ev.no (by simp) (Ev.now _))
    | true =>
      refine Ev.bind (l4Apart_ev hp l (by omega)) ?_
      cases ha : apartB p (tps l) with
      | false => exact Ev.no (by simp) (Ev.now _)
      | true =>
        refine Ev.yes rfl (Ev.bind (l4Conics_ev hp l (by omega) fun j hj => ptB_inP ((apart_facts ha).1 j (by omega))) ?_)
        have e : ((((nullP p 6 ((tps l).map (sqR p))).length : Int)) == 0) = (true && (nullP p 6 ((tps l).map (sqR p))).isEmpty) := by
          cases nullP p 6 ((tps l).map (sqR p)) with
          | nil => rfl
          | cons a t => simp; omega
        rw [e]
        exact Ev.now _
  · refine Ev.no (by omega) ?_
    rw [genB, hlen, decide_eq_false h6]
    exact Ev.now _

end Go.Proofs.Ytmgbpmihbljngaa.PA
namespace Go.Proofs.Ytmgbpmihbljngaa.PA
open Go.RowKit Go.Proofs.YtmgbpmihbljngaaW.PrintWords Go.Proofs.YtmgbpmihbljngaaW.PrintLast Go.Proofs.YtmgbpmihbljngaaW.PrintMore
set_option linter.unusedVariables false
set_option linter.unusedSimpArgs false

abbrev Fq (n : Nat) := Fin (n + 1)
def sm {n : Nat} : Nat → (Nat → Fq n) → Fq n
  | 0, _ => 0
  | m + 1, f => sm m f + f m
theorem sm_congr {n : Nat} {f g : Nat → Fq n} : ∀ (m : Nat), (∀ i, i < m → f i = g i) → sm m f = sm m g
  | 0, _ => rfl
  | m + 1, h => by rw [sm, sm, sm_congr m (fun i hi => h i (by omega)), h m (by omega)]
theorem sm_add {n : Nat} (f g : Nat → Fq n) : ∀ m, sm m (fun i => f i + g i) = sm m f + sm m g
  | 0 => by simp [sm]
  | m + 1 => by rw [sm, sm, sm, sm_add f g m]; grind
theorem sm_mul {n : Nat} (c : Fq n) (f : Nat → Fq n) : ∀ m, sm m (fun i => c * f i) = c * sm m f
  | 0 => by rw [sm, sm]; grind
  | m + 1 => by rw [sm, sm, sm_mul c f m]; grind
theorem sm_zero {n : Nat} {f : Nat → Fq n} : ∀ m, (∀ i, i < m → f i = 0) → sm m f = 0
  | 0, _ => rfl
  | m + 1, h => by rw [sm, sm_zero m (fun i hi => h i (by omega)), h m (by omega)]; grind
theorem sm_split {n : Nat} (f : Nat → Fq n) (a : Nat) : ∀ b, sm (a + b) f = sm a f + sm b (fun i => f (a + i))
  | 0 => by simp [sm]
  | b + 1 => by rw [← Nat.add_assoc, sm, sm, sm_split f a b]; grind
theorem sm_first {n : Nat} (f : Nat → Fq n) (m : Nat) : sm (m + 1) f = f 0 + sm m (fun i => f (i + 1)) := by
  rw [Nat.add_comm, sm_split f 1 m]
  simp only [sm, Nat.add_comm 1]
  grind
theorem sm_rev {n : Nat} : ∀ (m : Nat) (f : Nat → Fq n), sm m f = sm m (fun i => f (m - 1 - i))
  | 0, _ => rfl
  | m + 1, f => by
    rw [sm_first (fun i => f (m + 1 - 1 - i)) m, sm, sm_rev m f]
    have : sm m (fun i => f (m - 1 - i)) = sm m (fun i => f (m + 1 - 1 - (i + 1))) := sm_congr m fun i hi => by congr 1; omega
    rw [this]
    simp only [Nat.add_sub_cancel, Nat.sub_zero]
    grind
/-- the triangle summed by rows and by columns -/
theorem sm_tri {n : Nat} (a : Nat → Nat → Fq n) : ∀ m, sm m (fun i => sm (i + 1) (fun j => a j (i - j))) = sm m (fun j => sm (m - j) (fun k => a j k))
  | 0 => rfl
  | m + 1 => by
    have e0 : sm (m + 1) (fun i => sm (i + 1) (fun j => a j (i - j))) = sm m (fun i => sm (i + 1) (fun j => a j (i - j))) + sm (m + 1) (fun j => a j (m - j)) := rfl
    have e1 : sm (m + 1) (fun j => sm (m + 1 - j) (fun k => a j k)) = sm m (fun j => sm (m + 1 - j) (fun k => a j k)) + sm (m + 1 - m) (fun k => a m k) := rfl
    have e2 : sm (m + 1) (fun j => a j (m - j)) = sm m (fun j => a j (m - j)) + a m (m - m) := rfl
    rw [e0, e1, e2, sm_tri a m]
    have e : sm m (fun j => sm (m + 1 - j) (fun k => a j k)) = sm m (fun j => sm (m - j) (fun k => a j k)) + sm m (fun j => a j (m - j)) := by
      rw [← sm_add]
      refine sm_congr m fun i hi => ?_
      rw [show m + 1 - i = (m - i) + 1 by omega, sm]
    rw [e, show m + 1 - m = 0 + 1 by omega, sm, sm, Nat.sub_self]
    grind
/-- the product of two polynomials -/
def mulP {n : Nat} (f g : Nat → Fq n) (r : Nat) : Fq n := sm (r + 1) fun i => f i * g (r - i)
theorem mulP_comm {n : Nat} (f g : Nat → Fq n) : mulP f g = mulP g f := by
  funext r
  rw [mulP, sm_rev, mulP]
  refine sm_congr _ fun i hi => ?_
  rw [show r - (r + 1 - 1 - i) = i by omega, show r + 1 - 1 - i = r - i by omega]
  grind
theorem mulP_assoc {n : Nat} (f g h : Nat → Fq n) : mulP (mulP f g) h = mulP f (mulP g h) := by
  funext r
  have e1 : mulP (mulP f g) h r = sm (r + 1) (fun i => sm (i + 1) (fun j => f j * g (i - j) * h (r - j - (i - j)))) := by
    unfold mulP
    refine sm_congr _ fun i hi => ?_
    rw [show sm (i + 1) (fun i_1 => f i_1 * g (i - i_1)) * h (r - i) = h (r - i) * sm (i + 1) (fun i_1 => f i_1 * g (i - i_1)) by grind, ← sm_mul]
    refine sm_congr _ fun j hj => ?_
    rw [show r - j - (i - j) = r - i by omega]
    grind
  rw [e1, sm_tri (fun j k => f j * g k * h (r - j - k)), mulP]
  refine sm_congr _ fun j hj => ?_
  rw [mulP, ← sm_mul, show r + 1 - j = r - j + 1 by omega]
  refine sm_congr _ fun k hk => ?_
  grind
instance mulP_c {n : Nat} : Std.Commutative (α := Nat → Fq n) mulP := ⟨mulP_comm⟩
instance mulP_a {n : Nat} : Std.Associative (α := Nat → Fq n) mulP := ⟨mulP_assoc⟩
def addP {n : Nat} (f g : Nat → Fq n) (r : Nat) : Fq n := f r + g r
def smulP {n : Nat} (c : Fq n) (f : Nat → Fq n) (r : Nat) : Fq n := c * f r
theorem mulP_add {n : Nat} (f g h : Nat → Fq n) : mulP f (addP g h) = addP (mulP f g) (mulP f h) := by
  funext r
  show sm (r + 1) _ = sm (r + 1) _ + sm (r + 1) _
  rw [← sm_add]
  exact sm_congr _ fun i _ => by show f i * (g (r - i) + h (r - i)) = _; grind
theorem mulP_smul {n : Nat} (c : Fq n) (f g : Nat → Fq n) : mulP f (smulP c g) = smulP c (mulP f g) := by
  funext r
  show sm (r + 1) _ = c * sm (r + 1) _
  rw [← sm_mul]
  exact sm_congr _ fun i _ => by show f i * (c * g (r - i)) = _; grind
theorem add_mulP {n : Nat} (f g h : Nat → Fq n) : mulP (addP g h) f = addP (mulP g f) (mulP h f) := by rw [mulP_comm, mulP_add, mulP_comm f, mulP_comm f]
theorem smul_mulP {n : Nat} (c : Fq n) (f g : Nat → Fq n) : mulP (smulP c g) f = smulP c (mulP g f) := by rw [mulP_comm, mulP_smul, mulP_comm f]
/-- the places of the three numbers of each coefficient of a form -/
def tris : List (Nat × Nat × Nat) := [(0,0,0),(0,0,1),(0,0,2),(0,0,3),(0,1,1),(0,1,2),(0,1,3),(0,2,2),(0,2,3),(0,3,3),(1,1,1),(1,1,2),(1,1,3),(1,2,2),(1,2,3),(1,3,3),(2,2,2),(2,2,3),(2,3,3),(3,3,3)]
def tI (c : Nat) : Nat := (tris.getD c (0,0,0)).1
def tJ (c : Nat) : Nat := (tris.getD c (0,0,0)).2.1
def tK (c : Nat) : Nat := (tris.getD c (0,0,0)).2.2
/-- the coefficients of the product of three linear forms -/
def cubAt {n : Nat} (l m q : Nat → Fq n) (i j k : Nat) : Fq n :=
  if i = j then if j = k then l i * m i * q i else l i * m i * q k + l i * m k * q i + l k * m i * q i
  else if j = k then l i * m j * q j + l j * m i * q j + l j * m j * q i
  else l i * m j * q k + l i * m k * q j + l j * m i * q k + l j * m k * q i + l k * m i * q j + l k * m j * q i
def cubC {n : Nat} (l m q : Nat → Fq n) (c : Nat) : Fq n := cubAt l m q (tI c) (tJ c) (tK c)
def lin4 {n : Nat} (l y : Nat → Fq n) : Fq n := l 0 * y 0 + l 1 * y 1 + l 2 * y 2 + l 3 * y 3
theorem cub_sum {n : Nat} (l m q : Nat → Fq n) (t : Nat → Nat → Nat → Fq n) (s1 : ∀ i j k, t i j k = t j i k) (s2 : ∀ i j k, t i j k = t i k j) :
    sm 20 (fun c => cubC l m q c * t (tI c) (tJ c) (tK c)) = lin4 l fun i => lin4 m fun j => lin4 q fun k => t i j k := by
  simp only [sm, cubC, cubAt, tI, tJ, tK, tris, lin4, List.getD_cons_zero, List.getD_cons_succ, s1 1 0, s1 2 0, s1 3 0, s1 2 1, s1 3 1, s1 3 2, fun i => s2 i 1 0, fun i => s2 i 2 0, fun i => s2 i 3 0, fun i => s2 i 2 1, fun i => s2 i 3 1, fun i => s2 i 3 2]
  clear s1 s2
  simp only [if_false, if_true, Nat.reduceEqDiff, Nat.zero_ne_one, Nat.succ_ne_zero, Nat.reduceAdd]
  grind
theorem mul_lin4 {n : Nat} (l : Nat → Fq n) (B : Nat → Nat → Fq n) (g : Nat → Fq n) (r : Nat) : mulP (fun r => lin4 l fun i => B i r) g r = lin4 l fun i => mulP (B i) g r := by
  have e : (fun r => lin4 l fun i => B i r) = addP (addP (addP (smulP (l 0) (B 0)) (smulP (l 1) (B 1))) (smulP (l 2) (B 2))) (smulP (l 3) (B 3)) := rfl
  rw [e, add_mulP, add_mulP, add_mulP, smul_mulP, smul_mulP, smul_mulP, smul_mulP]
  rfl
theorem mul_lin4' {n : Nat} (l : Nat → Fq n) (B : Nat → Nat → Fq n) (g : Nat → Fq n) (r : Nat) : mulP g (fun r => lin4 l fun i => B i r) r = lin4 l fun i => mulP g (B i) r := by
  rw [mulP_comm, mul_lin4]
  simp only [lin4, mulP_comm g]
/-- the product of three of four polynomials -/
def proT {n : Nat} (B : Nat → Nat → Fq n) (c : Nat) : Nat → Fq n := mulP (mulP (B (tI c)) (B (tJ c))) (B (tK c))
theorem cub_poly {n : Nat} (l m q : Nat → Fq n) (B : Nat → Nat → Fq n) (r : Nat) : sm 20 (fun c => cubC l m q c * proT B c r) = mulP (mulP (fun r => lin4 l fun i => B i r) (fun r => lin4 m fun i => B i r)) (fun r => lin4 q fun i => B i r) r := by
  have h := cub_sum l m q (fun i j k => mulP (mulP (B i) (B j)) (B k) r) (fun i j k => by rw [mulP_comm (B i)]) (fun i j k => by rw [mulP_assoc, mulP_comm (B j), ← mulP_assoc])
  unfold proT
  rw [h, mul_lin4']
  have e : mulP (fun r => lin4 l fun i => B i r) (fun r => lin4 m fun i => B i r) = fun r => lin4 l fun i => lin4 m fun j => mulP (B i) (B j) r := by
    funext r
    rw [mul_lin4]
    simp only [mul_lin4']
  rw [e]
  simp only [mul_lin4 l (fun i r => lin4 m fun j => mulP (B i) (B j) r), mul_lin4 m]
  simp only [lin4]
  grind
theorem cub_val {n : Nat} (l m q y : Nat → Fq n) : sm 20 (fun c => cubC l m q c * (y (tI c) * y (tJ c) * y (tK c))) = lin4 l y * lin4 m y * lin4 q y := by
  rw [cub_sum l m q (fun i j k => y i * y j * y k) (fun i j k => by grind) (fun i j k => by grind)]
  simp only [lin4]
  grind
/-- what makes a field of it -/
def FldH (n : Nat) : Prop := ∀ a : Fq n, a ≠ 0 → ∃ b : Fq n, a * b = 1
theorem fz {n : Nat} (hF : FldH n) {a b : Fq n} (h : a * b = 0) : a = 0 ∨ b = 0 := by
  by_cases ha : a = 0
  · exact .inl ha
  · obtain ⟨c, hc⟩ := hF a ha
    right
    grind
theorem fnz {n : Nat} (hF : FldH n) {a b : Fq n} (ha : a ≠ 0) (hb : b ≠ 0) : a * b ≠ 0 := fun h => (fz hF h).elim ha hb
/-- a linear form at a point -/
def ev3 {n : Nat} (a P : Nat → Fq n) : Fq n := a 0 * P 0 + a 1 * P 1 + a 2 * P 2
/-- the line through two points -/
def crossL {n : Nat} (P Q : Nat → Fq n) : Nat → Fq n
  | 0 => P 1 * Q 2 - P 2 * Q 1
  | 1 => P 2 * Q 0 - P 0 * Q 2
  | 2 => P 0 * Q 1 - P 1 * Q 0
  | _ => 0
/-- a cubic at a point -/
def valC {n : Nat} (v P : Nat → Fq n) : Fq n := v 0 * (P 0 * P 0 * P 0) + v 1 * (P 0 * P 0 * P 1) + v 2 * (P 0 * P 0 * P 2) + v 3 * (P 0 * P 1 * P 1) + v 4 * (P 0 * P 1 * P 2) + v 5 * (P 0 * P 2 * P 2) + v 6 * (P 1 * P 1 * P 1) + v 7 * (P 1 * P 1 * P 2) + v 8 * (P 1 * P 2 * P 2) + v 9 * (P 2 * P 2 * P 2)
/-- the product of three linear forms in three numbers -/
def cub3 {n : Nat} (a b c : Nat → Fq n) : Nat → Fq n
  | 0 => cubAt a b c 0 0 0
  | 1 => cubAt a b c 0 0 1
  | 2 => cubAt a b c 0 0 2
  | 3 => cubAt a b c 0 1 1
  | 4 => cubAt a b c 0 1 2
  | 5 => cubAt a b c 0 2 2
  | 6 => cubAt a b c 1 1 1
  | 7 => cubAt a b c 1 1 2
  | 8 => cubAt a b c 1 2 2
  | 9 => cubAt a b c 2 2 2
  | _ => 0
theorem val_cub3 {n : Nat} (a b c P : Nat → Fq n) : valC (cub3 a b c) P = ev3 a P * ev3 b P * ev3 c P := by
  simp only [valC, cub3, cubAt, ev3, if_true, if_false, Nat.zero_ne_one, Nat.reduceEqDiff]
  grind
/-- a cubic as a polynomial: x is t to the power of 10, y is t -/
def sprd {n : Nat} (v : Nat → Fq n) : Nat → Fq n
  | 30 => v 0
  | 21 => v 1
  | 20 => v 2
  | 12 => v 3
  | 11 => v 4
  | 10 => v 5
  | 3 => v 6
  | 2 => v 7
  | 1 => v 8
  | 0 => v 9
  | _ => 0
def linP {n : Nat} (a : Nat → Fq n) : Nat → Fq n
  | 10 => a 0
  | 1 => a 1
  | 0 => a 2
  | _ => 0
theorem sm_tail {n : Nat} {f : Nat → Fq n} {a : Nat} (h : ∀ i, a ≤ i → f i = 0) (b : Nat) (hb : a ≤ b) : sm b f = sm a f := by
  obtain ⟨c, rfl⟩ := Nat.exists_eq_add_of_le hb
  rw [sm_split, sm_zero (f := fun i => f (a + i)) c fun i _ => h _ (by omega)]
  grind
theorem linP_big {n : Nat} (a : Nat → Fq n) : ∀ r, 11 ≤ r → linP a r = 0
  | _ + 11, _ => rfl
theorem mul_lin {n : Nat} (a g : Nat → Fq n) (r : Nat) : mulP (linP a) g r = a 2 * g r + (if 1 ≤ r then a 1 * g (r - 1) else 0) + (if 10 ≤ r then a 0 * g (r - 10) else 0) := by
  unfold mulP
  by_cases h : 10 ≤ r
  · rw [sm_tail (a := 11) (fun i hi => by rw [linP_big a i hi]; grind) (r + 1) (by omega), if_pos h, if_pos (by omega)]
    simp only [sm, linP, Nat.sub_zero]
    grind
  · rw [if_neg h]
    by_cases h1 : 1 ≤ r
    · rw [if_pos h1]
      obtain ⟨q, rfl⟩ := Nat.exists_eq_add_of_le h1
      rw [show 1 + q + 1 = 2 + q by omega, sm_split, sm_zero (m := q)]
      · simp only [sm, linP, Nat.sub_zero]
        grind
      · intro i hi
        have : linP a (2 + i) = 0 := by
          have : 2 + i < 10 := by omega
          rcases (show i = 0 ∨ i = 1 ∨ i = 2 ∨ i = 3 ∨ i = 4 ∨ i = 5 ∨ i = 6 ∨ i = 7 by omega) with rfl | rfl | rfl | rfl | rfl | rfl | rfl | rfl <;> rfl
        rw [this]; grind
    · rw [if_neg h1]
      obtain rfl : r = 0 := by omega
      simp only [sm, linP, Nat.sub_zero]
      grind
theorem sprd_cub3 {n : Nat} (a b c : Nat → Fq n) : sprd (cub3 a b c) = mulP (mulP (linP a) (linP b)) (linP c) := by
  funext r
  rw [mulP_assoc, mul_lin, mul_lin, mul_lin, mul_lin]
  match r with
  | 0 | 1 | 2 | 3 | 4 | 5 | 6 | 7 | 8 | 9 | 10 | 11 | 12 | 13 | 14 | 15 | 16 | 17 | 18 | 19 | 20 | 21 | 22 | 23 | 24 | 25 | 26 | 27 | 28 | 29 | 30 =>
    simp [sprd, cub3, cubAt, linP]
    try grind
  | r + 31 =>
    have h : ∀ k, 11 ≤ k → linP c k = 0 := linP_big c
    rw [h, h, h, h, h, h, h] <;> try omega
    show (0 : Fq n) = _
    grind
/-- two numbers are avoided -/
theorem avoid2 {n : Nat} (hF : FldH n) (h1 : (1 : Fq n) ≠ 0) (h2 : (2 : Fq n) ≠ 0) (h3 : (3 : Fq n) ≠ 0) {a b c d : Fq n} (hb : b ≠ 0) (hd : d ≠ 0) : ∃ s : Fq n, s ≠ 0 ∧ a + s * b ≠ 0 ∧ c + s * d ≠ 0 := by
  have two : ∀ s t : Fq n, t - s ≠ 0 → ∀ {a b : Fq n}, b ≠ 0 → a + s * b = 0 → a + t * b = 0 → False := fun s t hst a b hb e1 e2 => fnz hF hst hb (by grind)
  by_cases a1 : a + 1 * b = 0
  · have b2 : a + 2 * b ≠ 0 := fun e => two 1 2 (by grind) hb a1 e
    have b3 : a + 3 * b ≠ 0 := fun e => two 1 3 (by grind) hb a1 e
    by_cases c2 : c + 2 * d = 0
    · exact ⟨3, h3, b3, fun e => two 2 3 (by grind) hd c2 e⟩
    · exact ⟨2, h2, b2, c2⟩
  · by_cases c1 : c + 1 * d = 0
    · have d2 : c + 2 * d ≠ 0 := fun e => two 1 2 (by grind) hd c1 e
      have d3 : c + 3 * d ≠ 0 := fun e => two 1 3 (by grind) hd c1 e
      by_cases a2 : a + 2 * b = 0
      · exact ⟨3, h3, fun e => two 2 3 (by grind) hb a2 e, d3⟩
      · exact ⟨2, h2, a2, d2⟩
    · exact ⟨1, h1, a1, c1⟩
theorem avoid1 {n : Nat} (h1 : (1 : Fq n) ≠ 0) (h2 : (2 : Fq n) ≠ 0) {a b : Fq n} (ha : a ≠ 0) : ∃ s : Fq n, s ≠ 0 ∧ a + s * b ≠ 0 := by
  by_cases e : a + 1 * b = 0
  · refine ⟨2, h2, fun e2 => ?_⟩
    grind
  · exact ⟨1, h1, e⟩
def onPt {n : Nat} (P Q : Nat → Fq n) (s : Fq n) (i : Nat) : Fq n := P i + s * Q i
theorem ev_on {n : Nat} (a P Q : Nat → Fq n) (s : Fq n) : ev3 a (onPt P Q s) = ev3 a P + s * ev3 a Q := by simp only [ev3, onPt]; grind
theorem cross_l {n : Nat} (P Q : Nat → Fq n) : ev3 (crossL P Q) P = 0 := by simp only [ev3, crossL]; grind
theorem cross_r {n : Nat} (P Q : Nat → Fq n) : ev3 (crossL P Q) Q = 0 := by simp only [ev3, crossL]; grind
theorem val_lin4 {n : Nat} {v : Nat → Fq n} {l : Nat → Fq n} {B : Nat → Nat → Fq n} (h : ∀ j, j < 10 → v j = lin4 l fun i => B i j) (P : Nat → Fq n) : valC v P = lin4 l fun i => valC (B i) P := by
  simp only [valC, h 0 (by omega), h 1 (by omega), h 2 (by omega), h 3 (by omega), h 4 (by omega), h 5 (by omega), h 6 (by omega), h 7 (by omega), h 8 (by omega), h 9 (by omega), lin4]
  grind
theorem sprd_lin4 {n : Nat} {v : Nat → Fq n} {l : Nat → Fq n} {B : Nat → Nat → Fq n} (h : ∀ j, j < 10 → v j = lin4 l fun i => B i j) : sprd v = fun r => lin4 l fun i => sprd (B i) r := by
  funext r
  unfold sprd
  split <;> first | exact h _ (by omega) | (simp only [lin4]; grind)
def gen3 {n : Nat} (P : Nat → Nat → Fq n) : Prop := ∀ i j k, i < 6 → j < 6 → k < 6 → i ≠ j → j ≠ k → i ≠ k → ev3 (crossL (P i) (P j)) (P k) ≠ 0
/-- three lines that have all six points -/
def lin6 {n : Nat} (P : Nat → Nat → Fq n) (i j k l m q : Nat) : Nat → Fq n := cub3 (crossL (P i) (P j)) (crossL (P k) (P l)) (crossL (P m) (P q))
theorem lin6_val {n : Nat} (P : Nat → Nat → Fq n) (i j k l m q : Nat) (Q : Nat → Fq n) : valC (lin6 P i j k l m q) Q = ev3 (crossL (P i) (P j)) Q * ev3 (crossL (P k) (P l)) Q * ev3 (crossL (P m) (P q)) Q := val_cub3 _ _ _ _
theorem lin6_six {n : Nat} (P : Nat → Nat → Fq n) (i j k l m q : Nat) (h : ∀ x, x < 6 → x = i ∨ x = j ∨ x = k ∨ x = l ∨ x = m ∨ x = q) : ∀ x, x < 6 → valC (lin6 P i j k l m q) (P x) = 0 := fun x hx => by
  rw [lin6_val]
  rcases h x hx with rfl | rfl | rfl | rfl | rfl | rfl
  · rw [cross_l]; grind
  · rw [cross_r]; grind
  · rw [cross_l]; grind
  · rw [cross_r]; grind
  · rw [cross_l]; grind
  · rw [cross_r]; grind
/-- four cubics that make all cubics through six points of which no three are on a line have a cubic relation -/
theorem rel_poly {n : Nat} (hF : FldH n) (h1 : (1 : Fq n) ≠ 0) (h2 : (2 : Fq n) ≠ 0) (h3 : (3 : Fq n) ≠ 0) (P : Nat → Nat → Fq n) (hG : gen3 P) (B : Nat → Nat → Fq n)
    (hB : ∀ v : Nat → Fq n, (∀ x, x < 6 → valC v (P x) = 0) → ∃ l : Nat → Fq n, ∀ j, j < 10 → v j = lin4 l fun i => B i j) :
    ∃ f : Nat → Fq n, (∃ c, c < 20 ∧ f c ≠ 0) ∧ ∀ r, sm 20 (fun c => f c * proT (fun i => sprd (B i)) c r) = 0 := by
  have S := lin6_six P
  obtain ⟨x1, hx1⟩ := hB _ (S 0 3 1 4 2 5 (by omega))
  obtain ⟨x2, hx2⟩ := hB _ (S 0 4 1 5 2 3 (by omega))
  obtain ⟨x3, hx3⟩ := hB _ (S 0 5 1 3 2 4 (by omega))
  obtain ⟨y1, hy1⟩ := hB _ (S 0 3 1 5 2 4 (by omega))
  obtain ⟨y2, hy2⟩ := hB _ (S 0 4 1 3 2 5 (by omega))
  obtain ⟨y3, hy3⟩ := hB _ (S 0 5 1 4 2 3 (by omega))
  refine ⟨fun c => cubC x1 x2 x3 c - cubC y1 y2 y3 c, ?_, fun r => ?_⟩
  · apply Classical.byContradiction
    intro hn
    have hz : ∀ c, c < 20 → cubC x1 x2 x3 c = cubC y1 y2 y3 c := fun c hc => by
      have : ¬ (cubC x1 x2 x3 c - cubC y1 y2 y3 c ≠ 0) := fun h => hn ⟨c, hc, h⟩
      have := Classical.not_not.1 this
      grind
    have hv : ∀ y : Nat → Fq n, lin4 x1 y * lin4 x2 y * lin4 x3 y = lin4 y1 y * lin4 y2 y * lin4 y3 y := fun y => by
      rw [← cub_val, ← cub_val]
      exact sm_congr _ fun c hc => by rw [hz c hc]
    obtain ⟨s, hs, s1, s2⟩ := avoid2 hF h1 h2 h3 (a := ev3 (crossL (P 1) (P 4)) (P 0)) (c := ev3 (crossL (P 2) (P 5)) (P 0)) (hG 1 4 3 (by omega) (by omega) (by omega) (by omega) (by omega) (by omega)) (hG 2 5 3 (by omega) (by omega) (by omega) (by omega) (by omega) (by omega))
    obtain ⟨t, ht, t1, _⟩ := avoid2 hF h1 h2 h3 (a := ev3 (crossL (P 0) (P 3)) (P 1)) (c := 1) (hG 0 3 4 (by omega) (by omega) (by omega) (by omega) (by omega) (by omega)) h1
    have a2 : valC (lin6 P 0 4 1 3 2 5) (onPt (P 0) (P 3) s) ≠ 0 := by
      rw [lin6_val, ev_on, ev_on, ev_on, cross_l, cross_r]
      refine fnz hF (fnz hF ?_ ?_) s2
      · have := fnz hF hs (hG 0 4 3 (by omega) (by omega) (by omega) (by omega) (by omega) (by omega)); grind
      · have := hG 1 3 0 (by omega) (by omega) (by omega) (by omega) (by omega) (by omega); grind
    have a1 : valC (lin6 P 0 3 1 5 2 4) (onPt (P 1) (P 4) t) ≠ 0 := by
      rw [lin6_val, ev_on, ev_on, ev_on, cross_l, cross_r]
      refine fnz hF (fnz hF t1 ?_) ?_
      · have := fnz hF ht (hG 1 5 4 (by omega) (by omega) (by omega) (by omega) (by omega) (by omega)); grind
      · have := hG 2 4 1 (by omega) (by omega) (by omega) (by omega) (by omega) (by omega); grind
    have a3 : valC (lin6 P 0 5 1 4 2 3) (onPt (P 0) (P 3) s) ≠ 0 := by
      rw [lin6_val, ev_on, ev_on, ev_on, cross_l, cross_r]
      refine fnz hF (fnz hF ?_ s1) ?_
      · have := fnz hF hs (hG 0 5 3 (by omega) (by omega) (by omega) (by omega) (by omega) (by omega)); grind
      · have := hG 2 3 0 (by omega) (by omega) (by omega) (by omega) (by omega) (by omega); grind
    have b1 : valC (lin6 P 0 3 1 5 2 4) (onPt (P 0) (P 3) s) = 0 := by rw [lin6_val, ev_on, cross_l, cross_r]; grind
    have b3 : valC (lin6 P 0 5 1 4 2 3) (onPt (P 1) (P 4) t) = 0 := by rw [lin6_val, ev_on, ev_on, ev_on, cross_l (P 1), cross_r (P 1)]; grind
    have c1 : valC (lin6 P 0 3 1 4 2 5) (onPt (P 0) (P 3) s) = 0 := by rw [lin6_val, ev_on, cross_l, cross_r]; grind
    have c2 : valC (lin6 P 0 3 1 4 2 5) (onPt (P 1) (P 4) t) = 0 := by rw [lin6_val, ev_on, ev_on, ev_on, cross_l (P 1), cross_r (P 1)]; grind
    obtain ⟨u, hu, hu2⟩ := avoid1 h1 h2 (b := valC (lin6 P 0 4 1 3 2 5) (onPt (P 1) (P 4) t)) a2
    have hY := hv fun i => valC (B i) (onPt (P 0) (P 3) s) + u * valC (B i) (onPt (P 1) (P 4) t)
    have lin : ∀ (v l : Nat → Fq n), (∀ j, j < 10 → v j = lin4 l fun i => B i j) → lin4 l (fun i => valC (B i) (onPt (P 0) (P 3) s) + u * valC (B i) (onPt (P 1) (P 4) t)) = valC v (onPt (P 0) (P 3) s) + u * valC v (onPt (P 1) (P 4) t) := fun v l h => by
      rw [val_lin4 h, val_lin4 h]
      simp only [lin4]
      grind
    rw [lin _ _ hx1, lin _ _ hy1, lin _ _ hy2, lin _ _ hy3, c1, c2, b1, b3] at hY
    have e1 := fnz hF hu a1
    have := fnz hF (fnz hF e1 hu2) a3
    grind
  · have e : sm 20 (fun c => (cubC x1 x2 x3 c - cubC y1 y2 y3 c) * proT (fun i => sprd (B i)) c r) = sm 20 (fun c => cubC x1 x2 x3 c * proT (fun i => sprd (B i)) c r) + (-1) * sm 20 (fun c => cubC y1 y2 y3 c * proT (fun i => sprd (B i)) c r) := by
      rw [← sm_mul, ← sm_add]
      exact sm_congr _ fun c _ => by grind
    rw [e, cub_poly, cub_poly, ← sprd_lin4 hx1, ← sprd_lin4 hx2, ← sprd_lin4 hx3, ← sprd_lin4 hy1, ← sprd_lin4 hy2, ← sprd_lin4 hy3]
    unfold lin6
    simp only [sprd_cub3]
    have : ∀ a b c d e f g h i : Nat → Fq n, mulP (mulP (mulP (mulP a b) c) (mulP (mulP d e) f)) (mulP (mulP g h) i) = mulP (mulP (mulP (mulP a e) i) (mulP (mulP d h) c)) (mulP (mulP g b) f) := fun a b c d e f g h i => by ac_rfl
    rw [this]
    grind
/-- a whole number modulo n + 1 -/
def fi (n : Nat) (x : Int) : Fq n := ⟨(x % ((n : Int) + 1)).toNat, by have := Int.emod_lt_of_pos x (show (0 : Int) < (n : Int) + 1 by omega); have := Int.emod_nonneg x (show (n : Int) + 1 ≠ 0 by omega); omega⟩
theorem fi_val (n : Nat) (x : Int) : (((fi n x).val : Nat) : Int) = x % ((n : Int) + 1) := by
  have := Int.emod_nonneg x (show (n : Int) + 1 ≠ 0 by omega)
  show (((x % ((n : Int) + 1)).toNat : Nat) : Int) = _
  omega
theorem fi_ext {n : Nat} {a b : Fq n} (h : ((a.val : Nat) : Int) = (b.val : Nat)) : a = b := Fin.ext (by omega)
theorem fi_add (n : Nat) (x y : Int) : fi n (x + y) = fi n x + fi n y := by
  apply fi_ext
  rw [Fin.val_add, Int.natCast_emod, Int.natCast_add, fi_val, fi_val, fi_val, Int.natCast_add, Int.natCast_one, ← Int.add_emod]
theorem fi_mul (n : Nat) (x y : Int) : fi n (x * y) = fi n x * fi n y := by
  apply fi_ext
  rw [Fin.val_mul, Int.natCast_emod, Int.natCast_mul, fi_val, fi_val, fi_val, Int.natCast_add, Int.natCast_one, ← Int.mul_emod]
theorem fi_zero_iff (n : Nat) (x : Int) : fi n x = 0 ↔ ((n : Int) + 1) ∣ x := by
  rw [Int.dvd_iff_emod_eq_zero, ← fi_val]
  constructor
  · intro h; rw [h]; rfl
  · intro h; exact fi_ext (by rw [h]; rfl)
theorem fi_zero (n : Nat) : fi n 0 = 0 := (fi_zero_iff n 0).2 ⟨0, by omega⟩
theorem fi_neg (n : Nat) (x : Int) : fi n (-x) = - fi n x := by
  have := fi_add n x (-x)
  rw [show x + -x = 0 by omega, fi_zero] at this
  grind
theorem fi_sub (n : Nat) (x y : Int) : fi n (x - y) = fi n x - fi n y := by
  rw [Int.sub_eq_add_neg, fi_add, fi_neg]
  grind
theorem fi_eq (n : Nat) (x y : Int) : fi n x = fi n y ↔ ((n : Int) + 1) ∣ x - y := by
  rw [← fi_zero_iff, fi_sub]
  constructor <;> intro h <;> grind
theorem fi_mod (n : Nat) (x : Int) : fi n (x % ((n : Int) + 1)) = fi n x := by
  rw [fi_eq]
  exact ⟨-(x / ((n : Int) + 1)), by have := Int.mul_ediv_add_emod x ((n : Int) + 1); grind⟩
theorem fi_nat (n : Nat) (a : Fq n) : fi n (a.val : Nat) = a := fi_ext (by rw [fi_val, Int.emod_eq_of_lt (by omega) (by have := a.isLt; omega)])

end Go.Proofs.Ytmgbpmihbljngaa.PA
namespace Go.Proofs.Ytmgbpmihbljngaa.PA
open Go.RowKit Go.Proofs.YtmgbpmihbljngaaW.PrintWords Go.Proofs.YtmgbpmihbljngaaW.PrintLast Go.Proofs.YtmgbpmihbljngaaW.PrintMore
set_option linter.unusedVariables false
set_option linter.unusedSimpArgs false

/-- p is one more than this -/
def nn (p : Int) : Nat := p.toNat - 1
theorem nn_p {p : Int} (hp : primeB p = true) : ((nn p : Nat) : Int) + 1 = p := by have := prime_bd hp; unfold nn; omega
theorem fp_zero {p : Int} (hp : primeB p = true) (x : Int) : fi (nn p) x = 0 ↔ p ∣ x := by rw [fi_zero_iff, nn_p hp]
theorem fp_eq {p : Int} (hp : primeB p = true) (x y : Int) : fi (nn p) x = fi (nn p) y ↔ p ∣ x - y := by rw [fi_eq, nn_p hp]
theorem fp_mod {p : Int} (hp : primeB p = true) (x : Int) : fi (nn p) (x % p) = fi (nn p) x := by
  have := fi_mod (nn p) x
  rwa [nn_p hp] at this
theorem fi_one (n : Nat) : fi (n + 1) 1 = 1 := by
  apply fi_ext
  rw [fi_val, Int.emod_eq_of_lt (by omega) (by omega)]
  rfl
theorem fp_one {p : Int} (hp : primeB p = true) : fi (nn p) 1 = 1 := by
  have := prime_bd hp
  obtain ⟨m, hm⟩ : ∃ m, nn p = m + 1 := ⟨nn p - 1, by unfold nn; omega⟩
  rw [hm]; exact fi_one m
theorem fp_fld {p : Int} (hp : primeB p = true) : FldH (nn p) := fun a ha => by
  have hb := prime_bd hp
  have hlt : ((a.val : Nat) : Int) < p := by have := a.isLt; have := nn_p hp; omega
  have hne : ((a.val : Nat) : Int) ≠ 0 := fun e => ha (Fin.ext (by show a.val = 0; omega))
  obtain ⟨_, _, _, h, _⟩ := invP_spec hp (x := ((a.val : Nat) : Int)) (by omega) hlt
  refine ⟨fi (nn p) (invP p ((a.val : Nat) : Int)), ?_⟩
  have e : a = fi (nn p) ((a.val : Nat) : Int) := (fi_nat _ a).symm
  rw [e, ← fi_mul, fi_nat, ← fp_mod hp, h hne, fp_one hp]
theorem fp_small {p : Int} (hp : primeB p = true) {x : Int} (h0 : 0 < x) (h1 : x < 7) : fi (nn p) x ≠ 0 := fun h => by
  have hb := prime_bd hp
  have := Int.le_of_dvd h0 ((fp_zero hp x).1 h)
  omega
theorem fp_1 {p : Int} (hp : primeB p = true) : (1 : Fq (nn p)) ≠ 0 := by rw [← fp_one hp]; exact fp_small hp (by omega) (by omega)
theorem fp_two {p : Int} (hp : primeB p = true) : fi (nn p) 2 = 2 := by rw [show (2 : Int) = 1 + 1 from rfl, fi_add, fp_one hp]; grind
theorem fp_three {p : Int} (hp : primeB p = true) : fi (nn p) 3 = 3 := by rw [show (3 : Int) = 2 + 1 from rfl, fi_add, fp_one hp, fp_two hp]; grind
theorem fp_2 {p : Int} (hp : primeB p = true) : (2 : Fq (nn p)) ≠ 0 := by rw [← fp_two hp]; exact fp_small hp (by omega) (by omega)
theorem fp_3 {p : Int} (hp : primeB p = true) : (3 : Fq (nn p)) ≠ 0 := by rw [← fp_three hp]; exact fp_small hp (by omega) (by omega)

end Go.Proofs.Ytmgbpmihbljngaa.PA
namespace Go.Proofs.Ytmgbpmihbljngaa.PA
open Go.RowKit Go.Proofs.YtmgbpmihbljngaaW.PrintWords Go.Proofs.YtmgbpmihbljngaaW.PrintLast Go.Proofs.YtmgbpmihbljngaaW.PrintMore
set_option linter.unusedVariables false
set_option linter.unusedSimpArgs false

theorem redP_len (p : Int) : ∀ (d c : Nat) (L O : List (List Int)), (redP p d c L O).length ≤ L.length + O.length
  | 0, _, L, O => by rw [redP]; omega
  | d + 1, c, L, O => by
    rw [redP]
    split
    · exact redP_len p d (c + 1) L O
    · next i hf =>
      have hi := (find_lt hf).1
      refine Nat.le_trans (redP_len p d (c + 1) _ _) ?_
      simp [List.length_eraseIdx, hi]
      omega
def rankP (p : Int) (w : Nat) (L : List (List Int)) : Nat := (redP p w 0 L []).length
end Go.Proofs.Ytmgbpmihbljngaa.PA
namespace Go.Proofs.Ytmgbpmihbljngaa.PA
open Go.RowKit Go.Proofs.YtmgbpmihbljngaaW.PrintWords Go.Proofs.YtmgbpmihbljngaaW.PrintLast Go.Proofs.YtmgbpmihbljngaaW.PrintMore
set_option linter.unusedVariables false
set_option linter.unusedSimpArgs false

/-- the rank tells no more than the span -/
theorem rank_mono {p : Int} (hp : primeB p = true) {w : Nat} {L M : List (List Int)} (hL : okR p w L) (hM : okR p w M) (h : ∀ r ∈ L, Sp p w M (fn r)) : rankP p w L ≤ rankP p w M := by
  have hb := prime_bd hp
  obtain ⟨P, e1, _, hP, _, h2⟩ := redP_rref hp hL
  obtain ⟨Q, e3, _, hQ, h4, _⟩ := redP_rref hp hM
  rw [rankP, rankP, e1, e3, List.length_map, List.length_map]
  exact hP.len_le (by omega) hQ fun x hx => Sp.sub h4 (Sp.sub h (h2 x hx))
theorem rank_le {p : Int} {w : Nat} (L : List (List Int)) : rankP p w L ≤ L.length := by
  have := redP_len p w 0 L []
  simpa [rankP] using this

end Go.Proofs.Ytmgbpmihbljngaa.PA
namespace Go.Proofs.Ytmgbpmihbljngaa.PA
open Go.RowKit Go.Proofs.YtmgbpmihbljngaaW.PrintWords Go.Proofs.YtmgbpmihbljngaaW.PrintLast Go.Proofs.YtmgbpmihbljngaaW.PrintMore
set_option linter.unusedVariables false
set_option linter.unusedSimpArgs false

theorem nullP_rref {p : Int} (hp : primeB p = true) {w : Nat} {L : List (List Int)} (hL : okR p w L) :
    ∃ N : List (Nat × List Int), nullP p w L = N.map Prod.snd ∧ Rref p w N ∧ (∀ x ∈ N, ∀ r ∈ L, p ∣ dt w (fn r) (fn x.2)) ∧ ∀ v : Nat → Int, (∀ r ∈ L, p ∣ dt w (fn r) v) → Sp p w (N.map Prod.snd) v := by
  have hb := prime_bd hp
  obtain ⟨e1, _, hP, h1, h2⟩ := pairsP_spec hp hL
  obtain ⟨N, e3, _, hN, h4, h5⟩ := redP_rref hp (nullRows_ok (by omega) hP)
  have hcomm : ∀ u v : Nat → Int, dt w u v = dt w v u := fun u v => by
    rw [dt, dt]; congr 1; exact List.map_congr_left fun j _ => Int.mul_comm _ _
  refine ⟨N, e3, hN, fun x hx r hr => ?_, fun v hv => ?_⟩
  · refine dt_sp (L := (pairsP p w L).map Prod.snd) (fun s hs => ?_) (h1 r hr)
    obtain ⟨z, hz, rfl⟩ := List.mem_map.1 hs
    rw [hcomm]
    refine dt_sp (L := nullRows p w (pairsP p w L)) (fun q hq => ?_) (h5 x hx)
    rw [hcomm]
    exact null_sound hP hz hq
  · exact Sp.sub h4 (null_complete hP fun x hx => dt_sp hv (h2 x hx))
/-- fewer rows than columns: there is a list with products 0 -/
theorem nullP_ne {p : Int} (hp : primeB p = true) {w : Nat} {L : List (List Int)} (hL : okR p w L) (hr : rankP p w L < w) : nullP p w L ≠ [] := by
  have hb := prime_bd hp
  obtain ⟨e1, _, hP, h1, h2⟩ := pairsP_spec hp hL
  rw [rankP, e1, List.length_map] at hr
  obtain ⟨c, hc, hf⟩ := free_exists hP hr
  obtain ⟨N, e3, _, hN, h4, h5⟩ := redP_rref hp (nullRows_ok (by omega) hP)
  intro e
  rw [nullP] at e
  rw [e] at e3
  have hN0 : N.map Prod.snd = [] := e3.symm
  have hs := h4 (nullVec p w (pairsP p w L) c) (List.mem_map.2 ⟨c, List.mem_filter.2 ⟨by simpa using hc, hf⟩, rfl⟩)
  rw [hN0] at hs
  cases hs with
  | zero _ hz =>
    have := hz c hc
    rw [nullVec_off hP hc (free_not hf), if_pos rfl] at this
    exact not_dvd_one (by omega) this
  | add _ u r t hr2 _ _ => exact absurd hr2 (by simp)

end Go.Proofs.Ytmgbpmihbljngaa.PA
namespace Go.Proofs.Ytmgbpmihbljngaa.PA
open Go.RowKit Go.Proofs.YtmgbpmihbljngaaW.PrintWords Go.Proofs.YtmgbpmihbljngaaW.PrintLast Go.Proofs.YtmgbpmihbljngaaW.PrintMore
set_option linter.unusedVariables false
set_option linter.unusedSimpArgs false

/-- the columns of rows, as rows -/
def tr (w : Nat) (L : List (List Int)) : List (List Int) := (List.range w).map fun j => L.map fun r => fn r j
theorem fn_map (L : List (List Int)) (f : List Int → Int) (i : Nat) (hi : i < L.length) : fn (L.map f) i = f (L.getD i []) := by
  rw [fn, rd_at _ i (by rw [List.length_map]; exact hi), List.getElem_map, List.getD_eq_getElem?_getD, List.getElem?_eq_getElem hi]; rfl
theorem tr_ok {p : Int} {w : Nat} {L : List (List Int)} (hL : okR p w L) : okR p L.length (tr w L) := fun r hr => by
  obtain ⟨j, hj, rfl⟩ := List.mem_map.1 hr
  refine ⟨by simp, fun x hx => ?_⟩
  obtain ⟨q, hq, rfl⟩ := List.mem_map.1 hx
  exact fn_range (hL q hq) j (by simpa using hj)
theorem count_free {p : Int} {w : Nat} {N : List (Nat × List Int)} (h : Rref p w N) : ((List.range w).filter (freeC N)).length + N.length ≤ w := by
  have h1 := len_le_of_keys (P := N) (Q := ((List.range w).filter fun c => !freeC N c).map fun c => (c, ([] : List Int))) h.inc (by
    rw [List.pairwise_map]; exact List.Pairwise.sublist List.filter_sublist List.pairwise_lt_range) (fun x hx => by
    refine ⟨(x.1, []), List.mem_map.2 ⟨x.1, List.mem_filter.2 ⟨by simpa using h.lt x hx, ?_⟩, rfl⟩, rfl⟩
    cases hf : freeC N x.1 with
    | false => rfl
    | true => exact absurd rfl (free_not hf x hx))
  rw [List.length_map] at h1
  have h2 : ((List.range w).filter (freeC N)).length + ((List.range w).filter fun c => !freeC N c).length = w := by
    have : ∀ l : List Nat, (l.filter (freeC N)).length + (l.filter fun c => !freeC N c).length = l.length := fun l => by
      induction l with
      | nil => rfl
      | cons a l ih => cases hf : freeC N a <;> simp [hf] <;> omega
    simpa using this (List.range w)
  omega
/-- as many relations as there are take as much from the rank -/
theorem rel_rank {p : Int} (hp : primeB p = true) {w : Nat} {L : List (List Int)} (hL : okR p w L) : rankP p w L + (nullP p L.length (tr w L)).length ≤ L.length := by
  obtain ⟨N, e, hN, h4, _⟩ := nullP_rref hp (tr_ok hL)
  rw [e, List.length_map]
  have hc := count_free hN
  have hok : okR p w (((List.range L.length).filter (freeC N)).map fun i => L.getD i []) := fun r hr => by
    obtain ⟨i, hi, rfl⟩ := List.mem_map.1 hr
    exact hL _ (mem_getD (by have := (List.mem_filter.1 hi).1; simpa using this))
  have hmono := rank_mono hp hL hok (fun r hr => by
    obtain ⟨i, hi, rfl⟩ := List.mem_iff_getElem.1 hr
    have ei : L[i] = L.getD i [] := by rw [List.getD_eq_getElem?_getD, List.getElem?_eq_getElem hi]; rfl
    by_cases hf : freeC N i = true
    · exact Sp.mem (List.mem_map.2 ⟨i, List.mem_filter.2 ⟨by simpa using hi, hf⟩, ei.symm⟩)
    · have hex : ∃ z ∈ N, z.1 = i := by
        by_cases he : ∃ z ∈ N, z.1 = i
        · exact he
        · exact absurd (free_of he) hf
      obtain ⟨z, hz, rfl⟩ := hex
      have hsp : ∀ l : List Nat, (∀ c ∈ l, c ∈ (List.range L.length).filter (freeC N)) → Sp p w (((List.range L.length).filter (freeC N)).map fun i => L.getD i []) fun j => (l.map fun c => fn z.2 c * fn (L.getD c []) j).sum := by
        intro l
        induction l with
        | nil => intro _; exact .zero _ fun j _ => by simp
        | cons c l ih =>
          intro hl
          exact .add _ _ (L.getD c []) (fn z.2 c) (List.mem_map.2 ⟨c, hl c (by simp), rfl⟩) (ih fun d hd => hl d (by simp [hd])) fun j _ => by
            rw [List.map_cons, List.sum_cons]; exact ⟨0, by omega⟩
      refine ((hsp _ fun c hc => hc).scale (-1)).congr fun j hj => ?_
      have hd := h4 z hz (L.map fun r => fn r j) (List.mem_map.2 ⟨j, by simpa using hj, rfl⟩)
      have hcomm : dt L.length (fn (L.map fun r => fn r j)) (fn z.2) = dt L.length (fn z.2) (fn (L.map fun r => fn r j)) := by
        rw [dt, dt]; congr 1; exact List.map_congr_left fun i _ => Int.mul_comm _ _
      rw [hcomm, dt_row hN hz, fn_map L (fun r => fn r j) z.1 (hN.lt z hz)] at hd
      have e3 : (((List.range L.length).filter (freeC N)).map fun c => fn z.2 c * fn (L.map fun r => fn r j) c) = (((List.range L.length).filter (freeC N)).map fun c => fn z.2 c * fn (L.getD c []) j) := by
        refine List.map_congr_left fun c hc => ?_
        have hcl : c < L.length := by have := (List.mem_filter.1 hc).1; simpa using this
        rw [fn_map L (fun r => fn r j) c hcl]
      rw [e3] at hd
      rw [ei]
      exact dvd_one 1 hd (by omega))
  have hle := rank_le (p := p) (w := w) (((List.range L.length).filter (freeC N)).map fun i => L.getD i [])
  rw [List.length_map] at hle
  omega

end Go.Proofs.Ytmgbpmihbljngaa.PA
namespace Go.Proofs.Ytmgbpmihbljngaa.PA
open Go.RowKit Go.Proofs.YtmgbpmihbljngaaW.PrintWords Go.Proofs.YtmgbpmihbljngaaW.PrintLast Go.Proofs.YtmgbpmihbljngaaW.PrintMore
set_option linter.unusedVariables false
set_option linter.unusedSimpArgs false

theorem fi_dt (n : Nat) (u v : Nat → Int) : ∀ w, fi n (dt w u v) = sm w fun j => fi n (u j) * fi n (v j)
  | 0 => by rw [sm]; exact fi_zero n
  | w + 1 => by
    have e : dt (w + 1) u v = dt w u v + u w * v w := by simp [dt, List.range_succ]
    rw [e, fi_add, fi_mul, fi_dt n u v w, sm]
theorem Sp.sumN {p : Int} {w : Nat} {L : List (List Int)} (t : Nat → Int) : ∀ m, m ≤ L.length → Sp p w L fun x => dt m t fun j => fn (L.getD j []) x
  | 0, _ => .zero _ fun j _ => by simp [dt]
  | m + 1, h => by
    refine ((Sp.sumN t m (by omega)).sum ((Sp.mem (mem_getD (L := L) (i := m) (by omega))).scale (t m))).congr fun j _ => ?_
    have e : dt (m + 1) t (fun k => fn (L.getD k []) j) = dt m t (fun k => fn (L.getD k []) j) + t m * fn (L.getD m []) j := by simp [dt, List.range_succ]
    rw [e]; exact ⟨0, by omega⟩
theorem getD_of_mem {L : List (List Int)} {r : List Int} (h : r ∈ L) : ∃ i, i < L.length ∧ L.getD i [] = r := by
  obtain ⟨i, hi, e⟩ := List.mem_iff_getElem.1 h
  exact ⟨i, hi, by rw [List.getD_eq_getElem?_getD, List.getElem?_eq_getElem hi]; exact e⟩
theorem Sp.lin4 {p : Int} (hp : primeB p = true) {w : Nat} {N : List (List Int)} (hN : N.length = 4) {v : Nat → Int} (h : Sp p w N v) : ∃ l : Nat → Fq (nn p), ∀ j, j < w → fi (nn p) (v j) = PA.lin4 l fun i => fi (nn p) (fn (N.getD i []) j) := by
  induction h with
  | zero v hz => exact ⟨fun _ => 0, fun j hj => by rw [(fp_zero hp _).2 (hz j hj)]; simp only [PA.lin4]; grind⟩
  | add v u r t hr _ h2 ih =>
    obtain ⟨l, hl⟩ := ih
    obtain ⟨i, hi, e⟩ := getD_of_mem hr
    refine ⟨fun k => l k + if k = i then fi (nn p) t else 0, fun j hj => ?_⟩
    rw [(fp_eq hp _ _).2 (h2 j hj), fi_add, fi_mul, hl j hj]
    rcases (show i = 0 ∨ i = 1 ∨ i = 2 ∨ i = 3 by omega) with rfl | rfl | rfl | rfl <;> (rw [← e]; simp [PA.lin4]; grind)
/-- the list of zeros with a one at a place -/
def unitR (w i : Nat) : List Int := (List.replicate w 0).set i 1
theorem fn_unit (w i j : Nat) (hi : i < w) : fn (unitR w i) j = if j = i then 1 else 0 := by
  rw [unitR, fn_set _ _ _ _ (by simpa using hi)]
  split
  · rfl
  · simp only [fn, rd, Int.toNat_natCast, List.getD_eq_getElem?_getD, List.getElem?_replicate]
    split <;> rfl
theorem unit_ok {p : Int} (hp : 2 ≤ p) (w i : Nat) : (unitR w i).length = w ∧ ∀ x ∈ unitR w i, 0 ≤ x ∧ x < p := by
  refine ⟨by simp [unitR], fun x hx => ?_⟩
  rcases List.mem_or_eq_of_mem_set hx with h | h
  · have := (List.mem_replicate.1 h).2; omega
  · omega
theorem dt_unit (v : Nat → Int) (i : Nat) : ∀ w, dt w (fun j => if j = i then 1 else 0) v = if i < w then v i else 0
  | 0 => by simp [dt]
  | w + 1 => by
    have e : dt (w + 1) (fun j => if j = i then 1 else 0) v = dt w (fun j => if j = i then 1 else 0) v + (if w = i then 1 else 0) * v w := by simp [dt, List.range_succ]
    rw [e, dt_unit v i w]
    by_cases h : w = i
    · subst h; simp
    · by_cases h2 : i < w
      · rw [if_pos h2, if_neg h, if_pos (show i < w + 1 by omega)]; omega
      · rw [if_neg h2, if_neg h, if_neg (show ¬ i < w + 1 by omega)]; omega
/-- rows leave at least as many lists with products 0 as they are fewer than the columns -/
theorem null_ge {p : Int} (hp : primeB p = true) {w : Nat} {L : List (List Int)} (hL : okR p w L) : w ≤ (nullP p w L).length + L.length := by
  have hb := prime_bd hp
  obtain ⟨N, e, hN, _, hc⟩ := nullP_rref hp hL
  rw [e, List.length_map]
  apply Classical.byContradiction
  intro hlt
  have hM : okR p w (L ++ N.map fun x => unitR w x.1) := okR_app hL fun r hr => by
    obtain ⟨x, _, rfl⟩ := List.mem_map.1 hr
    exact unit_ok (by omega) w x.1
  have hne := nullP_ne hp hM (Nat.lt_of_le_of_lt (rank_le _) (by simp; omega))
  obtain ⟨Q, e2, hQ, h2, _⟩ := nullP_rref hp hM
  rw [e2] at hne
  cases Q with
  | nil => exact hne rfl
  | cons z Q =>
    have hv : Sp p w (N.map Prod.snd) (fn z.2) := hc _ fun r hr => h2 z (by simp) r (List.mem_append_left _ hr)
    have hz := hN.coord hv z.1 (hQ.lt z (by simp))
    have hcs : p ∣ cs N (fn z.2) z.1 := cs_zero fun x hx => by
      have := h2 z (by simp) (unitR w x.1) (List.mem_append_right _ (List.mem_map.2 ⟨x, hx, rfl⟩))
      have hf : fn (unitR w x.1) = fun j => if j = x.1 then 1 else 0 := funext fun j => fn_unit w x.1 j (hN.lt x hx)
      rw [hf, dt_unit, if_pos (hN.lt x hx)] at this
      exact Int.dvd_mul_of_dvd_left this
    rw [hQ.one z (by simp)] at hz
    exact not_dvd_one (p := p) (by omega) (dvd_lin 1 1 hz hcs (by omega))
theorem tr_tr {p : Int} {w : Nat} {L : List (List Int)} (hL : okR p w L) : tr L.length (tr w L) = L := by
  apply List.ext_getElem
  · simp [tr]
  · intro i h1 h2
    simp only [tr, List.getElem_map, List.getElem_range, List.map_map]
    have hl := (hL _ (List.getElem_mem h2)).1
    apply List.ext_getElem
    · simp [hl]
    · intro j h3 h4
      simp only [List.getElem_map, List.getElem_range, Function.comp]
      rw [fn_map _ _ _ h2, List.getD_eq_getElem?_getD, List.getElem?_eq_getElem h2]
      exact rd_at _ _ h4
theorem fn_tr {w : Nat} (L : List (List Int)) (i j : Nat) (hi : i < w) (hj : j < L.length) : fn ((tr w L).getD i []) j = fn (L.getD j []) i := by
  have e : (tr w L).getD i [] = L.map fun r => fn r i := by simp [tr, List.getD_eq_getElem?_getD, hi]
  rw [e, fn_map _ _ _ hj]
theorem rank_unit6 : ∀ p ∈ ([7, 11, 13, 17, 19, 23, 29, 31] : List Int), rankP p 6 ((List.range 6).map (unitR 6)) = 6 := by decide +kernel

end Go.Proofs.Ytmgbpmihbljngaa.PA
namespace Go.Proofs.Ytmgbpmihbljngaa.PA
open Go.RowKit Go.Proofs.YtmgbpmihbljngaaW.PrintWords Go.Proofs.YtmgbpmihbljngaaW.PrintLast Go.Proofs.YtmgbpmihbljngaaW.PrintMore
set_option linter.unusedVariables false
set_option linter.unusedSimpArgs false

/-- a point of whole numbers -/
def p3 (n : Nat) (t : Int × Int × Int) : Nat → Fq n
  | 0 => fi n t.1
  | 1 => fi n t.2.1
  | _ => fi n t.2.2
/-- the ten products of a point, modulo p -/
def cubR (p : Int) (t : Int × Int × Int) : List Int := [t.1 * t.1 * t.1 % p, t.1 * t.1 * t.2.1 % p, t.1 * t.1 * t.2.2 % p, t.1 * t.2.1 * t.2.1 % p, t.1 * t.2.1 * t.2.2 % p, t.1 * t.2.2 * t.2.2 % p, t.2.1 * t.2.1 * t.2.1 % p, t.2.1 * t.2.1 * t.2.2 % p, t.2.1 * t.2.2 * t.2.2 % p, t.2.2 * t.2.2 * t.2.2 % p]
theorem cubR_ok {p : Int} (hp : primeB p = true) (t : Int × Int × Int) : (cubR p t).length = 10 ∧ ∀ x ∈ cubR p t, 0 ≤ x ∧ x < p := by
  have hb := prime_bd hp
  refine ⟨rfl, fun x hx => ?_⟩
  have hm : ∀ y : Int, 0 ≤ y % p ∧ y % p < p := fun y => ⟨Int.emod_nonneg _ (by omega), Int.emod_lt_of_pos _ (by omega)⟩
  simp only [cubR, List.mem_cons, List.not_mem_nil, or_false] at hx
  rcases hx with rfl | rfl | rfl | rfl | rfl | rfl | rfl | rfl | rfl | rfl <;> exact hm _
theorem cubR_val {p : Int} (hp : primeB p = true) (t : Int × Int × Int) (v : Nat → Fq (nn p)) : (sm 10 fun j => fi (nn p) (fn (cubR p t) j) * v j) = valC v (p3 (nn p) t) := by
  simp only [sm, fn, rd, Int.toNat_natCast, cubR, List.getD_cons_zero, List.getD_cons_succ, fp_mod hp, fi_mul, valC, p3]
  grind
theorem gen3_of {n : Nat} {P : Nat → Nat → Fq n} (h : ∀ i j k, i < 6 → j < i → k < j → ev3 (crossL (P i) (P j)) (P k) ≠ 0) : gen3 P := by
  have c1 : ∀ A B C : Nat → Fq n, ev3 (crossL A B) C = ev3 (crossL B C) A := fun A B C => by simp only [ev3, crossL]; grind
  have c2 : ∀ A B C : Nat → Fq n, ev3 (crossL A B) C = - ev3 (crossL B A) C := fun A B C => by simp only [ev3, crossL]; grind
  intro i j k hi hj hk h1 h2 h3
  rcases Nat.lt_or_gt_of_ne h1 with a | a <;> rcases Nat.lt_or_gt_of_ne h2 with b | b <;> rcases Nat.lt_or_gt_of_ne h3 with c | c
  · have := h k j i hk b a; rw [c2, ← c1, ]; grind
  · omega
  · have := h j k i hj b c; rw [c1]; exact this
  · have := h j i k hj a c; rw [c2]; grind
  · have := h k i j hk c a; rw [c1, c1]; exact this
  · have := h i k j hi c b; rw [c2, c1, c1, ]; grind
  · omega
  · exact h i j k hi a b
/-- a cubic through five of six points, not through the other one -/
theorem sep6 {n : Nat} (hF : FldH n) {P : Nat → Nat → Fq n} (hG : gen3 P) : ∀ i, i < 6 → ∃ v : Nat → Fq n, (∀ x, x < 6 → x ≠ i → valC v (P x) = 0) ∧ valC v (P i) ≠ 0 := by
  have key : ∀ i a b c d e, i < 6 → a < 6 → b < 6 → c < 6 → d < 6 → e < 6 → (∀ x, x < 6 → x ≠ i → x = a ∨ x = b ∨ x = c ∨ x = d ∨ x = e) → i ≠ a → i ≠ b → i ≠ c → i ≠ d → i ≠ e → a ≠ b → c ≠ d → e ≠ a → ∃ v : Nat → Fq n, (∀ x, x < 6 → x ≠ i → valC v (P x) = 0) ∧ valC v (P i) ≠ 0 := by
    intro i a b c d e hi ha hb hc hd he hx ia ib ic id ie ab cd ea
    refine ⟨lin6 P a b c d e a, fun x h6 hxi => ?_, ?_⟩
    · rw [lin6_val]
      rcases hx x h6 hxi with rfl | rfl | rfl | rfl | rfl
      · rw [cross_l]; grind
      · rw [cross_r]; grind
      · rw [cross_l]; grind
      · rw [cross_r]; grind
      · rw [cross_l]; grind
    · rw [lin6_val]
      exact fnz hF (fnz hF (hG a b i ha hb hi ab (Ne.symm ib) (Ne.symm ia)) (hG c d i hc hd hi cd (Ne.symm id) (Ne.symm ic))) (hG e a i he ha hi ea (Ne.symm ia) (Ne.symm ie))
  intro i hi
  rcases (show i = 0 ∨ i = 1 ∨ i = 2 ∨ i = 3 ∨ i = 4 ∨ i = 5 by omega) with rfl | rfl | rfl | rfl | rfl | rfl
  · exact key 0 1 2 3 4 5 (by omega) (by omega) (by omega) (by omega) (by omega) (by omega) (by omega) (by omega) (by omega) (by omega) (by omega) (by omega) (by omega) (by omega) (by omega)
  · exact key 1 0 2 3 4 5 (by omega) (by omega) (by omega) (by omega) (by omega) (by omega) (by omega) (by omega) (by omega) (by omega) (by omega) (by omega) (by omega) (by omega) (by omega)
  · exact key 2 1 0 3 4 5 (by omega) (by omega) (by omega) (by omega) (by omega) (by omega) (by omega) (by omega) (by omega) (by omega) (by omega) (by omega) (by omega) (by omega) (by omega)
  · exact key 3 1 2 0 4 5 (by omega) (by omega) (by omega) (by omega) (by omega) (by omega) (by omega) (by omega) (by omega) (by omega) (by omega) (by omega) (by omega) (by omega) (by omega)
  · exact key 4 1 2 3 0 5 (by omega) (by omega) (by omega) (by omega) (by omega) (by omega) (by omega) (by omega) (by omega) (by omega) (by omega) (by omega) (by omega) (by omega) (by omega)
  · exact key 5 1 2 3 4 0 (by omega) (by omega) (by omega) (by omega) (by omega) (by omega) (by omega) (by omega) (by omega) (by omega) (by omega) (by omega) (by omega) (by omega) (by omega)
/-- six points -/
def ptL (p : Int) (Q : List (Int × Int × Int)) (i : Nat) : Nat → Fq (nn p) := p3 (nn p) (Q.getD i (0, 0, 0))
/-- the base of six points -/
def basP (p : Int) (Q : List (Int × Int × Int)) : List (List Int) := nullP p 10 (Q.map (cubR p))
/-- its cubics -/
def basF (p : Int) (Q : List (Int × Int × Int)) (i j : Nat) : Fq (nn p) := fi (nn p) (fn ((basP p Q).getD i []) j)
theorem bas_ok {p : Int} (hp : primeB p = true) (Q : List (Int × Int × Int)) : okR p 10 (Q.map (cubR p)) := fun r hr => by
  obtain ⟨t, _, rfl⟩ := List.mem_map.1 hr
  exact cubR_ok hp t
theorem bas_row (p : Int) (Q : List (Int × Int × Int)) (i : Nat) (hi : i < Q.length) : (Q.map (cubR p)).getD i [] = cubR p (Q.getD i (0, 0, 0)) := by
  simp [List.getD_eq_getElem?_getD, hi]
theorem valC_smul {n : Nat} (c : Fq n) (v P : Nat → Fq n) : valC (fun j => c * v j) P = c * valC v P := by simp only [valC]; grind
theorem bas_le {p : Int} (hp : primeB p = true) {Q : List (Int × Int × Int)} (h6 : Q.length = 6) (hG : gen3 (ptL p Q)) : (basP p Q).length ≤ 4 := by
  have hb := prime_bd hp
  have hR := bas_ok hp Q
  have hT : okR p 6 (tr 10 (Q.map (cubR p))) := by have := tr_ok hR; rwa [List.length_map, h6] at this
  have h1 := rel_rank hp hT
  have hl : (tr 10 (Q.map (cubR p))).length = 10 := by simp [tr]
  have ht : tr 6 (tr 10 (Q.map (cubR p))) = Q.map (cubR p) := by have := tr_tr hR; rwa [List.length_map, h6] at this
  rw [hl, ht] at h1
  have hI : okR p 6 ((List.range 6).map (unitR 6)) := fun r hr => by
    obtain ⟨i, _, rfl⟩ := List.mem_map.1 hr
    exact unit_ok (by omega) 6 i
  have h2 := rank_mono hp hI hT fun r hr => by
    obtain ⟨i, hi, rfl⟩ := List.mem_map.1 hr
    have hi6 : i < 6 := by simpa using hi
    obtain ⟨v, hv0, hv1⟩ := sep6 (fp_fld hp) hG i hi6
    obtain ⟨c, hc⟩ := fp_fld hp _ hv1
    refine (Sp.sumN (L := tr 10 (Q.map (cubR p))) (fun j => (((c * v j : Fq (nn p)).val : Nat) : Int)) 10 (by omega)).congr fun x hx => ?_
    rw [← fp_eq hp, fi_dt, fn_unit 6 i x hi6]
    have e : (sm 10 fun j => fi (nn p) (((c * v j : Fq (nn p)).val : Nat) : Int) * fi (nn p) (fn ((tr 10 (Q.map (cubR p))).getD j []) x)) = c * valC v (ptL p Q x) := by
      rw [← valC_smul, ptL, ← cubR_val hp]
      refine sm_congr _ fun j hj => ?_
      rw [fi_nat, fn_tr _ _ _ hj (by rw [List.length_map]; omega), bas_row _ _ _ (by omega)]
      grind
    rw [e]
    by_cases hxi : x = i
    · subst hxi; rw [if_pos rfl, fp_one hp]; grind
    · rw [if_neg hxi, hv0 x hx hxi, fi_zero]; grind
  rw [rank_unit6 p (by have := primeB_cases hp; simpa using this)] at h2
  show (nullP p 10 (Q.map (cubR p))).length ≤ 4
  omega
theorem bas_len {p : Int} (hp : primeB p = true) {Q : List (Int × Int × Int)} (h6 : Q.length = 6) (hG : gen3 (ptL p Q)) : (basP p Q).length = 4 := by
  have h1 := bas_le hp h6 hG
  have h2 := null_ge hp (bas_ok hp Q)
  rw [List.length_map, h6] at h2
  have : 10 ≤ (basP p Q).length + 6 := h2
  omega
/-- the base makes all cubics through the six points -/
theorem bas_all {p : Int} (hp : primeB p = true) {Q : List (Int × Int × Int)} (h6 : Q.length = 6) (hG : gen3 (ptL p Q)) (v : Nat → Fq (nn p)) (hv : ∀ x, x < 6 → valC v (ptL p Q x) = 0) : ∃ l : Nat → Fq (nn p), ∀ j, j < 10 → v j = lin4 l fun i => basF p Q i j := by
  obtain ⟨N, e, hN, _, hc⟩ := nullP_rref hp (bas_ok hp Q)
  have hs := hc (fun j => (((v j).val : Nat) : Int)) fun r hr => by
    obtain ⟨x, hx, rfl⟩ := getD_of_mem hr
    rw [List.length_map, h6] at hx
    rw [← fp_zero hp, fi_dt, bas_row _ _ _ (by omega)]
    simp only [fi_nat]
    rw [cubR_val hp]
    exact hv x hx
  rw [← e] at hs
  obtain ⟨l, hl⟩ := Sp.lin4 hp (bas_len hp h6 hG) hs
  exact ⟨l, fun j hj => by have := hl j hj; rwa [fi_nat] at this⟩
/-- the cubic relation of the base -/
theorem rel20 {p : Int} (hp : primeB p = true) {Q : List (Int × Int × Int)} (h6 : Q.length = 6) (hG : gen3 (ptL p Q)) {T : List (List Int)} (hT : okR p 20 T) (hr : ∀ r ∈ T, ∃ e, ∀ c, c < 20 → fi (nn p) (fn r c) = proT (fun i => sprd (basF p Q i)) c e) : nullP p 20 T ≠ [] := by
  have hb := prime_bd hp
  obtain ⟨f, ⟨c, hc, hf⟩, h⟩ := rel_poly (fp_fld hp) (fp_1 hp) (fp_2 hp) (fp_3 hp) (ptL p Q) hG (basF p Q) (bas_all hp h6 hG)
  obtain ⟨N, e, hN, _, hs⟩ := nullP_rref hp hT
  have h2 := hs (fun c => (((f c).val : Nat) : Int)) fun r hr' => by
    obtain ⟨q, hq⟩ := hr r hr'
    rw [← fp_zero hp, fi_dt, ← h q]
    refine sm_congr _ fun c hc => ?_
    rw [hq c hc, fi_nat]
    grind
  intro e0
  rw [e] at e0
  rw [e0] at h2
  cases h2 with
  | zero _ hz =>
    have := (fp_zero hp _).2 (hz c hc)
    rw [fi_nat] at this
    exact hf this
  | add _ u r t hr2 _ _ => exact absurd hr2 (by simp)

end Go.Proofs.Ytmgbpmihbljngaa.PA
namespace Go.Proofs.Ytmgbpmihbljngaa.PA
open Go.RowKit Go.Proofs.YtmgbpmihbljngaaW.PrintWords Go.Proofs.YtmgbpmihbljngaaW.PrintLast Go.Proofs.YtmgbpmihbljngaaW.PrintMore
set_option linter.unusedVariables false
set_option linter.unusedSimpArgs false

/-- numbers modulo p as a list -/
def lstF (n w : Nat) (F : Nat → Fq n) : List Int := (List.range w).map fun r => (((F r).val : Nat) : Int)
theorem lst_len (n w : Nat) (F : Nat → Fq n) : (lstF n w F).length = w := by simp [lstF]
theorem fn_lst {n w : Nat} (F : Nat → Fq n) (r : Nat) (h : r < w) : fn (lstF n w F) r = (((F r).val : Nat) : Int) := by
  rw [fn, rd_at _ r (by rw [lst_len]; exact h)]
  simp [lstF]
theorem lst_ok {p : Int} (hp : primeB p = true) (w : Nat) (F : Nat → Fq (nn p)) : (lstF (nn p) w F).length = w ∧ ∀ x ∈ lstF (nn p) w F, 0 ≤ x ∧ x < p := by
  refine ⟨lst_len _ _ _, fun x hx => ?_⟩
  obtain ⟨r, _, rfl⟩ := List.mem_map.1 hx
  have := (F r).isLt
  have := nn_p hp
  omega
theorem lst_congr {n w : Nat} {F G : Nat → Fq n} (h : ∀ r, r < w → F r = G r) : lstF n w F = lstF n w G :=
  List.map_congr_left fun r hr => by rw [h r (by simpa using hr)]
theorem fi_fn_lst {n w : Nat} (F : Nat → Fq n) (r : Nat) (h : r < w) : fi n (fn (lstF n w F) r) = F r := by rw [fn_lst F r h, fi_nat]
theorem lst_eq {p : Int} (hp : primeB p = true) {w : Nat} {L : List Int} (hL : L.length = w ∧ ∀ x ∈ L, 0 ≤ x ∧ x < p) (F : Nat → Fq (nn p)) (h : ∀ r, r < w → fi (nn p) (fn L r) = F r) : L = lstF (nn p) w F := by
  refine fn_ext hL.1 (lst_len _ _ _) fun j hj => ?_
  have hr := fn_range hL j hj
  rw [fn_lst F j hj, ← h j hj, fi_val, nn_p hp, Int.emod_eq_of_lt hr.1 hr.2]
theorem lst_set {p : Int} (hp : primeB p = true) {w : Nat} (F : Nat → Fq (nn p)) (j : Nat) (x : Int) (hx : 0 ≤ x ∧ x < p) : (lstF (nn p) w F).set j x = lstF (nn p) w fun r => if r = j then fi (nn p) x else F r := by
  refine lst_eq hp ⟨by rw [List.length_set, lst_len], fun y hy => ?_⟩ _ fun r hr => ?_
  · rcases List.mem_or_eq_of_mem_set hy with h | h
    · exact (lst_ok hp w F).2 y h
    · subst h; exact hx
  · by_cases hj : j < w
    · rw [fn_set _ _ _ _ (by rw [lst_len]; exact hj)]
      by_cases e : r = j
      · rw [if_pos e, if_pos e]
      · rw [if_neg e, if_neg e, fi_fn_lst F r hr]
    · rw [List.set_eq_of_length_le (by rw [lst_len]; omega), fi_fn_lst F r hr, if_neg (by omega)]

end Go.Proofs.Ytmgbpmihbljngaa.PA
namespace Go.Proofs.Ytmgbpmihbljngaa.PA
open Go.RowKit Go.Proofs.YtmgbpmihbljngaaW.PrintWords Go.Proofs.YtmgbpmihbljngaaW.PrintLast Go.Proofs.YtmgbpmihbljngaaW.PrintMore
set_option linter.unusedVariables false
set_option linter.unusedSimpArgs false

theorem mulmod3 (A B C p : Int) : A % p * (B % p) % p * (C % p) % p = A * B * C % p := by rw [Int.mul_emod (A * B) C p, Int.mul_emod A B p]
theorem l5Power_ev {p : Int} (hp : 7 ≤ p ∧ p ≤ 31) {x : Int} (hx : 0 ≤ x ∧ x < p) (n : Nat) (hn : n ≤ 3) : Ev (fun k => spec_l5Power.f k p x (n : Int)) (x ^ n % p) := by
  have h0 : ∀ (d i : Nat), i + d = n → Ev (fun q => spec_l5Power.l0 q p x (n : Int) (x ^ i % p) (i : Int)) (x ^ n % p) := by
    intro d
    induction d with
    | zero =>
      intro i hi
      obtain rfl : i = n := by omega
      exact Ev.step (f := fun _ => some (x ^ i % p)) (fun q => by rw [spec_l5Power.l0, if_neg (by omega)]) (Ev.now _)
    | succ d ih =>
      intro i hi
      have hy : 0 ≤ x ^ i % p ∧ x ^ i % p < p := ⟨Int.emod_nonneg _ (by omega), Int.emod_lt_of_pos _ (by omega)⟩
      have hm := mul_bd hp hy hx
      refine Ev.step (fun q => by rw [spec_l5Power.l0, if_pos (by omega), if_neg (by omega), wsm (i := x ^ i % p * x) (by omega) (by omega), wsm (i := (i : Int) + 1) (by omega) (by omega), Int.tmod_eq_emod_of_nonneg hm.1, show x ^ i % p * x % p = x ^ (i + 1) % p by rw [Int.pow_succ, Int.mul_emod, Int.emod_emod, ← Int.mul_emod]]) ?_
      exact ih (i + 1) (by omega)
  unfold spec_l5Power.f
  have := h0 n 0 (by omega)
  rw [Int.pow_zero, Int.emod_eq_of_lt (by omega) (by omega)] at this
  exact this
def powL : List S41 := [⟨3, 0, 0⟩, ⟨2, 1, 0⟩, ⟨2, 0, 1⟩, ⟨1, 2, 0⟩, ⟨1, 1, 1⟩, ⟨1, 0, 2⟩, ⟨0, 3, 0⟩, ⟨0, 2, 1⟩, ⟨0, 1, 2⟩, ⟨0, 0, 3⟩]
theorem l5Powers_eq : spec_l5Powers.f = some powL := rfl
def powN : List (Nat × Nat × Nat) := [(3, 0, 0), (2, 1, 0), (2, 0, 1), (1, 2, 0), (1, 1, 1), (1, 0, 2), (0, 3, 0), (0, 2, 1), (0, 1, 2), (0, 0, 3)]
theorem powL_at : ∀ i : Nat, i < 10 → (rd_T41 powL (i : Int)).f0 = (((powN.getD i (0, 0, 0)).1 : Nat) : Int) ∧ (rd_T41 powL (i : Int)).f1 = (((powN.getD i (0, 0, 0)).2.1 : Nat) : Int) ∧ (rd_T41 powL (i : Int)).f2 = (((powN.getD i (0, 0, 0)).2.2 : Nat) : Int) ∧ (powN.getD i (0, 0, 0)).1 ≤ 3 ∧ (powN.getD i (0, 0, 0)).2.1 ≤ 3 ∧ (powN.getD i (0, 0, 0)).2.2 ≤ 3 := by
  intro i hi
  rcases (show i = 0 ∨ i = 1 ∨ i = 2 ∨ i = 3 ∨ i = 4 ∨ i = 5 ∨ i = 6 ∨ i = 7 ∨ i = 8 ∨ i = 9 by omega) with rfl | rfl | rfl | rfl | rfl | rfl | rfl | rfl | rfl | rfl <;> exact ⟨rfl, rfl, rfl, by decide, by decide, by decide⟩
/-- product i of a point -/
def monR (p : Int) (t : Int × Int × Int) (i : Nat) : Int := t.1 ^ (powN.getD i (0, 0, 0)).1 * t.2.1 ^ (powN.getD i (0, 0, 0)).2.1 * t.2.2 ^ (powN.getD i (0, 0, 0)).2.2 % p
theorem monR_all (p : Int) (t : Int × Int × Int) : (List.range 10).map (monR p t) = cubR p t := by
  have e : ∀ x : Int, x ^ 3 = x * x * x ∧ x ^ 2 = x * x ∧ x ^ 1 = x ∧ x ^ 0 = 1 := fun x => ⟨by grind, by grind, by grind, by grind⟩
  show [monR p t 0, monR p t 1, monR p t 2, monR p t 3, monR p t 4, monR p t 5, monR p t 6, monR p t 7, monR p t 8, monR p t 9] = _
  simp only [monR, powN, List.getD_cons_zero, List.getD_cons_succ, (e _).1, (e _).2.1, (e _).2.2.1, (e _).2.2.2, Int.mul_one, Int.one_mul, cubR, Int.mul_assoc]
theorem l5Products_ev {p : Int} (hp : 7 ≤ p ∧ p ≤ 31) (t : Int × Int × Int) (ht : inP p t) : Ev (fun k => spec_l5Products.f k p t.1 t.2.1 t.2.2) (cubR p t) := by
  have h0 : ∀ (d i : Nat), i + d = 10 → Ev (fun q => spec_l5Products.l0 q p ((List.range i).map (monR p t)) powL (i : Int) t.1 t.2.1 t.2.2) (cubR p t) := by
    intro d
    induction d with
    | zero =>
      intro i hi
      obtain rfl : i = 10 := by omega
      refine Ev.step (f := fun _ => some (cubR p t)) (fun q => by rw [spec_l5Products.l0, if_neg (by omega), monR_all]) (Ev.now _)
    | succ d ih =>
      intro i hi
      obtain ⟨e0, e1, e2, l0, l1, l2⟩ := powL_at i (by omega)
      have hm : ∀ y : Int, 0 ≤ y % p ∧ y % p < p := fun y => ⟨Int.emod_nonneg _ (by omega), Int.emod_lt_of_pos _ (by omega)⟩
      have b1 := mul_bd hp (hm (t.1 ^ (powN.getD i (0, 0, 0)).1)) (hm (t.2.1 ^ (powN.getD i (0, 0, 0)).2.1))
      have b2 := mul_bd hp (hm ((t.1 ^ (powN.getD i (0, 0, 0)).1 % p) * (t.2.1 ^ (powN.getD i (0, 0, 0)).2.1 % p))) (hm (t.2.2 ^ (powN.getD i (0, 0, 0)).2.2))
      refine Ev.step (fun q => by rw [spec_l5Products.l0, if_pos (by omega), if_pos (by omega), if_pos (by simp [powL]; omega), e0, e1, e2]) ?_
      refine Ev.bind (l5Power_ev hp ht.1 _ l0) (Ev.bind (l5Power_ev hp ht.2.1 _ l1) (Ev.no (by omega) (Ev.bind (l5Power_ev hp ht.2.2 _ l2) (Ev.yes (by simp; omega) ?_))))
      rw [wsm (i := (i : Int) + 1) (by omega) (by omega), wsm (i := t.1 ^ (powN.getD i (0, 0, 0)).1 % p * _) (by omega) (by omega), Int.tmod_eq_emod_of_nonneg b1.1, wsm (by omega) (by omega), Int.tmod_eq_emod_of_nonneg b2.1]
      have e : ((List.range i).map (monR p t)) ++ [t.1 ^ (powN.getD i (0, 0, 0)).1 % p * (t.2.1 ^ (powN.getD i (0, 0, 0)).2.1 % p) % p * (t.2.2 ^ (powN.getD i (0, 0, 0)).2.2 % p) % p] = (List.range (i + 1)).map (monR p t) := by
        rw [List.range_succ, List.map_append]
        congr 1
        show [_] = [monR p t i]
        rw [monR, mulmod3]
      rw [e]
      exact ih (i + 1) (by omega)
  unfold spec_l5Products.f
  rw [l5Powers_eq]
  exact Ev.bind (Ev.k rfl) (h0 10 0 rfl)

end Go.Proofs.Ytmgbpmihbljngaa.PA
namespace Go.Proofs.Ytmgbpmihbljngaa.PA
open Go.RowKit Go.Proofs.YtmgbpmihbljngaaW.PrintWords Go.Proofs.YtmgbpmihbljngaaW.PrintLast Go.Proofs.YtmgbpmihbljngaaW.PrintMore
set_option linter.unusedVariables false
set_option linter.unusedSimpArgs false

theorem l5Base_ev {p : Int} (hp : primeB p = true) (l : List S43) (hl : l.length = 6) (hin : ∀ j, j < l.length → inP p ((tps l).getD j (0, 0, 0))) : Ev (fun k => spec_l5Base.f k p l) (basP p (tps l)) := by
  have hb := prime_bd hp
  have hlen : (tps l).length = l.length := by simp [tps]
  have h0 : ∀ (d i : Nat) (acc : List (List Int)), i + d = 6 → acc = ((tps l).take i).map (cubR p) → Ev (fun q => spec_l5Base.l0 q p l acc (i : Int)) (basP p (tps l)) := by
    intro d
    induction d with
    | zero =>
      intro i acc hi ha
      refine Ev.step (fun q => by rw [spec_l5Base.l0, if_neg (by omega)]) ?_
      rw [List.take_of_length_le (by omega)] at ha
      subst ha
      have := l4Null_ev hp (w := 10) (by omega) _ (by rw [List.length_map]; omega) (bas_ok hp (tps l))
      exact Ev.bind this (Ev.now _)
    | succ d ih =>
      intro i acc hi ha
      have hil : i < l.length := by omega
      have hal : acc.length ≤ 1000 := by rw [ha, List.length_map, List.length_take]; omega
      have e : Ev (fun k => spec_l5Products.f k p (rd_T43 l (i : Int)).f0.f0 (rd_T43 l (i : Int)).f0.f1 (rd_T43 l (i : Int)).f0.f2) (cubR p (tpl (rd_T43 l (i : Int)))) := l5Products_ev (p := p) ⟨by omega, by omega⟩ (tpl (rd_T43 l (i : Int))) (by rw [tpl_at l i hil]; exact hin i hil)
      refine Ev.step (fun q => by rw [spec_l5Base.l0, if_pos (by omega), if_pos (by omega), if_pos (by omega)]) (Ev.bind e ?_)
      refine Ev.yes (show acc.length < 5864062014805 by omega) ?_
      rw [wsm (by omega) (by omega)]
      refine ih (i + 1) _ (by omega) ?_
      rw [ha, List.take_add_one, List.map_append, List.getElem?_eq_getElem (by omega), tpl_at l i hil, List.getD_eq_getElem?_getD, List.getElem?_eq_getElem (by omega)]
      rfl
  unfold spec_l5Base.f
  exact h0 6 0 [] (by omega) (by simp)

end Go.Proofs.Ytmgbpmihbljngaa.PA
namespace Go.Proofs.Ytmgbpmihbljngaa.PA
open Go.RowKit Go.Proofs.YtmgbpmihbljngaaW.PrintWords Go.Proofs.YtmgbpmihbljngaaW.PrintLast Go.Proofs.YtmgbpmihbljngaaW.PrintMore
set_option linter.unusedVariables false
set_option linter.unusedSimpArgs false

def codN : List Nat := [30, 21, 20, 12, 11, 10, 3, 2, 1, 0]
/-- a cubic's first numbers, spread -/
def spS (a : List Int) : Nat → List Int
  | 0 => List.replicate 100 0
  | i + 1 => (spS a i).set (codN.getD i 0) (rd a (i : Int))
theorem spS_len (a : List Int) : ∀ i, (spS a i).length = 100
  | 0 => by simp [spS]
  | i + 1 => by rw [spS, List.length_set, spS_len a i]
theorem cod_at : ∀ i : Nat, i < 10 → wrap64 (wrap64 (10 * (rd_T41 powL (i : Int)).f0) + (rd_T41 powL (i : Int)).f1) = ((codN.getD i 0 : Nat) : Int) ∧ codN.getD i 0 < 100 := by
  intro i hi
  rcases (show i = 0 ∨ i = 1 ∨ i = 2 ∨ i = 3 ∨ i = 4 ∨ i = 5 ∨ i = 6 ∨ i = 7 ∨ i = 8 ∨ i = 9 by omega) with rfl | rfl | rfl | rfl | rfl | rfl | rfl | rfl | rfl | rfl <;> exact ⟨by decide +kernel, by decide⟩
theorem spS_fn {p : Int} (a : List Int) (r : Nat) : fi (nn p) (fn (spS a 10) r) = sprd (fun j => fi (nn p) (fn a j)) r := by
  have hz : fn (List.replicate 100 0) r = 0 := by
    simp only [fn, rd, Int.toNat_natCast, List.getD_eq_getElem?_getD, List.getElem?_replicate]
    split <;> rfl
  have e : fn (spS a 10) r = if r = 0 then fn a 9 else if r = 1 then fn a 8 else if r = 2 then fn a 7 else if r = 3 then fn a 6 else if r = 10 then fn a 5 else if r = 11 then fn a 4 else if r = 12 then fn a 3 else if r = 20 then fn a 2 else if r = 21 then fn a 1 else if r = 30 then fn a 0 else 0 := by
    have s : ∀ i, (spS a i).length = 100 := spS_len a
    rw [spS, fn_set _ _ _ _ (by rw [s]; decide), spS, fn_set _ _ _ _ (by rw [s]; decide), spS, fn_set _ _ _ _ (by rw [s]; decide), spS, fn_set _ _ _ _ (by rw [s]; decide), spS, fn_set _ _ _ _ (by rw [s]; decide), spS, fn_set _ _ _ _ (by rw [s]; decide), spS, fn_set _ _ _ _ (by rw [s]; decide), spS, fn_set _ _ _ _ (by rw [s]; decide), spS, fn_set _ _ _ _ (by rw [s]; decide), spS, fn_set _ _ _ _ (by rw [s]; decide), spS, hz]
    rfl
  have key : ∀ v : Nat → Fq (nn p), (r ≠ 0 ∧ r ≠ 1 ∧ r ≠ 2 ∧ r ≠ 3 ∧ r ≠ 10 ∧ r ≠ 11 ∧ r ≠ 12 ∧ r ≠ 20 ∧ r ≠ 21 ∧ r ≠ 30) → sprd v r = 0 := fun v h => by
    unfold sprd
    split <;> first | rfl | omega
  rw [e]
  by_cases h0 : r = 0
  · subst h0; rfl
  by_cases h1 : r = 1
  · subst h1; rfl
  by_cases h2 : r = 2
  · subst h2; rfl
  by_cases h3 : r = 3
  · subst h3; rfl
  by_cases h10 : r = 10
  · subst h10; rfl
  by_cases h11 : r = 11
  · subst h11; rfl
  by_cases h12 : r = 12
  · subst h12; rfl
  by_cases h20 : r = 20
  · subst h20; rfl
  by_cases h21 : r = 21
  · subst h21; rfl
  by_cases h30 : r = 30
  · subst h30; rfl
  rw [key _ ⟨h0, h1, h2, h3, h10, h11, h12, h20, h21, h30⟩, if_neg h0, if_neg h1, if_neg h2, if_neg h3, if_neg h10, if_neg h11, if_neg h12, if_neg h20, if_neg h21, if_neg h30, fi_zero]
theorem l6sSpread_ev {p : Int} (hp : primeB p = true) (a : List Int) (ha : a.length = 10 ∧ ∀ x ∈ a, 0 ≤ x ∧ x < p) : Ev (fun k => spec_l6sSpread.f k a) (lstF (nn p) 100 (sprd fun j => fi (nn p) (fn a j))) := by
  have hb := prime_bd hp
  have hok : ∀ i, i ≤ 10 → (spS a i).length = 100 ∧ ∀ x ∈ spS a i, 0 ≤ x ∧ x < p := by
    intro i
    induction i with
    | zero => exact fun _ => ⟨by simp [spS], fun x hx => by have := (List.mem_replicate.1 hx).2; omega⟩
    | succ i ih =>
      intro hi
      refine ⟨spS_len a _, fun x hx => ?_⟩
      rcases List.mem_or_eq_of_mem_set hx with h | h
      · exact (ih (by omega)).2 x h
      · rw [h, rd_at a i (by omega)]; exact ha.2 _ (List.getElem_mem _)
  have h0 : ∀ (d i : Nat), i + d = 10 → Ev (fun q => spec_l6sSpread.l0 q a (spS a i) powL (i : Int)) (spS a 10) := by
    intro d
    induction d with
    | zero =>
      intro i hi
      obtain rfl : i = 10 := by omega
      exact Ev.step (f := fun _ => some (spS a 10)) (fun q => by rw [spec_l6sSpread.l0, if_neg (by omega)]) (Ev.now _)
    | succ d ih =>
      intro i hi
      obtain ⟨e1, e2⟩ := cod_at i (by omega)
      have hs := spS_len a i
      refine Ev.step (fun q => by rw [spec_l6sSpread.l0, if_pos (by omega), if_pos (by omega), if_pos (by simp [powL]; omega), if_pos (by omega), e1, if_pos (by omega), if_pos (by omega), Int.toNat_natCast, wsm (by omega) (by omega)]) ?_
      exact ih (i + 1) (by omega)
  have e : spS a 10 = lstF (nn p) 100 (sprd fun j => fi (nn p) (fn a j)) := lst_eq hp (hok 10 (Nat.le_refl _)) _ fun r _ => spS_fn a r
  unfold spec_l6sSpread.f
  refine Ev.yes (by omega) (Ev.bind (Ev.k l5Powers_eq) ?_)
  rw [← e]
  exact h0 10 0 rfl

end Go.Proofs.Ytmgbpmihbljngaa.PA
namespace Go.Proofs.Ytmgbpmihbljngaa.PA
open Go.RowKit Go.Proofs.YtmgbpmihbljngaaW.PrintWords Go.Proofs.YtmgbpmihbljngaaW.PrintLast Go.Proofs.YtmgbpmihbljngaaW.PrintMore
set_option linter.unusedVariables false
set_option linter.unusedSimpArgs false

/-- what stands at r when i numbers, and k of the next one, are done -/
def pS {n : Nat} (F G : Nat → Fq n) (i k r : Nat) : Fq n := sm i (fun j => if j ≤ r then F j * G (r - j) else 0) + if i ≤ r ∧ r - i < k then F i * G (r - i) else 0
theorem pS_start {n : Nat} (F G : Nat → Fq n) (r : Nat) : pS F G 0 0 r = 0 := by simp [pS, sm]
theorem pS_zero {n : Nat} (F G : Nat → Fq n) (i : Nat) (h : F i = 0) (r : Nat) : pS F G (i + 1) 0 r = pS F G i 0 r := by
  have hz : (if i ≤ r then F i * G (r - i) else 0) = 0 := by split <;> simp [h] <;> grind
  simp [pS, sm, hz]
theorem pS_next {n : Nat} (F G : Nat → Fq n) (i r w : Nat) (hr : r < w) (hi : i ≤ w) : pS F G i (w - i) r = pS F G (i + 1) 0 r := by
  simp only [pS, sm]
  by_cases h : i ≤ r
  · rw [if_pos ⟨h, by omega⟩, if_pos h, if_neg (by omega)]; grind
  · rw [if_neg (by omega), if_neg h, if_neg (by omega)]; grind
theorem pS_end {n : Nat} (F G : Nat → Fq n) (r w : Nat) (hr : r < w) : pS F G w 0 r = mulP F G r := by
  obtain ⟨d, rfl⟩ : ∃ d, w = (r + 1) + d := ⟨w - (r + 1), by omega⟩
  rw [pS, if_neg (by omega), sm_split, sm_zero (m := d) fun i _ => if_neg (by omega), mulP]
  have : sm (r + 1) (fun j => if j ≤ r then F j * G (r - j) else 0) = sm (r + 1) (fun j => F j * G (r - j)) := sm_congr _ fun j hj => if_pos (by omega)
  rw [this]
  grind
theorem pS_same {n : Nat} (F G : Nat → Fq n) (i k r : Nat) (h : G k = 0) : pS F G i (k + 1) r = pS F G i k r := by
  unfold pS
  congr 1
  by_cases h1 : i ≤ r ∧ r - i < k
  · rw [if_pos h1, if_pos ⟨h1.1, by omega⟩]
  · rw [if_neg h1]
    by_cases h2 : i ≤ r ∧ r - i < k + 1
    · rw [if_pos h2, show r - i = k by omega, h]; grind
    · rw [if_neg h2]
theorem pS_step {n : Nat} (F G : Nat → Fq n) (i k r : Nat) : pS F G i (k + 1) r = if r = i + k then pS F G i k (i + k) + F i * G k else pS F G i k r := by
  by_cases e : r = i + k
  · subst e
    rw [if_pos rfl, pS, pS, if_pos ⟨by omega, by omega⟩, if_neg (by omega), show i + k - i = k by omega]
    grind
  · rw [if_neg e, pS, pS]
    congr 1
    by_cases h1 : i ≤ r ∧ r - i < k
    · rw [if_pos h1, if_pos ⟨h1.1, by omega⟩]
    · rw [if_neg h1, if_neg (by omega)]
theorem l6sTimes_ev {p : Int} (hp : primeB p = true) (F G : Nat → Fq (nn p)) : Ev (fun k => spec_l6sTimes.f k p (lstF (nn p) 100 F) (lstF (nn p) 100 G)) (lstF (nn p) 100 (mulP F G)) := by
  have hb := prime_bd hp
  have hn := nn_p hp
  have lF := lst_len (nn p) 100 F
  have lG := lst_len (nn p) 100 G
  have hv : ∀ a : Fq (nn p), 0 ≤ ((a.val : Nat) : Int) ∧ ((a.val : Nat) : Int) < p := fun a => by have := a.isLt; omega
  have rF : ∀ (H : Nat → Fq (nn p)) (j : Nat), j < 100 → rd (lstF (nn p) 100 H) (j : Int) = (((H j).val : Nat) : Int) := fun H j hj => fn_lst H j hj
  have h1 : ∀ (i : Nat) (R : List Int), i < 100 → Ev (fun q => spec_l6sTimes.l0 q p (lstF (nn p) 100 F) (lstF (nn p) 100 G) (lstF (nn p) 100 (pS F G (i + 1) 0)) ((i + 1 : Nat) : Int)) R → ∀ (d k : Nat), i + k + d = 100 → Ev (fun q => spec_l6sTimes.l1 q p (lstF (nn p) 100 F) (lstF (nn p) 100 G) (lstF (nn p) 100 (pS F G i k)) (i : Int) (k : Int)) R := by
    intro i R hi hend d
    induction d with
    | zero =>
      intro k hk
      have e : lstF (nn p) 100 (pS F G i k) = lstF (nn p) 100 (pS F G (i + 1) 0) := lst_congr fun r hr => by rw [show k = 100 - i by omega]; exact pS_next F G i r 100 hr (by omega)
      rw [e]
      refine Ev.step (fun q => by rw [spec_l6sTimes.l1, wsm (by omega) (by omega), if_neg (by omega), wsm (by omega) (by omega)]) ?_
      exact hend
    | succ d ih =>
      intro k hk
      have lS := lst_len (nn p) 100 (pS F G i k)
      by_cases hz : rd (lstF (nn p) 100 G) (k : Int) = 0
      · have e : lstF (nn p) 100 (pS F G i k) = lstF (nn p) 100 (pS F G i (k + 1)) := lst_congr fun r _ => (pS_same F G i k r (by rw [rF G k (by omega)] at hz; exact Fin.ext (by show (G k).val = 0; omega))).symm
        rw [e]
        refine Ev.step (fun q => by rw [spec_l6sTimes.l1, wsm (i := (i : Int) + k) (by omega) (by omega), if_pos (by omega), if_pos (by omega), if_pos (by omega), if_pos hz, wsm (by omega) (by omega)]) ?_
        exact ih (k + 1) (by omega)
      · have e1 : ((i : Int) + (k : Int)) = ((i + k : Nat) : Int) := by omega
        have b1 := hv (F i)
        have b2 := hv (G k)
        have b3 := hv (pS F G i k (i + k))
        have b4 := mul_bd (p := p) ⟨by omega, by omega⟩ b1 b2
        have b5 : 0 ≤ (((pS F G i k (i + k)).val : Nat) : Int) + (((F i).val : Nat) : Int) * (((G k).val : Nat) : Int) := by omega
        have e2 : (lstF (nn p) 100 (pS F G i k)).set (i + k) (((((pS F G i k (i + k)).val : Nat) : Int) + (((F i).val : Nat) : Int) * (((G k).val : Nat) : Int)) % p) = lstF (nn p) 100 (pS F G i (k + 1)) := by
          rw [lst_set hp _ _ _ ⟨Int.emod_nonneg _ (by omega), Int.emod_lt_of_pos _ (by omega)⟩]
          refine lst_congr fun r _ => ?_
          rw [pS_step, fp_mod hp, fi_add, fi_mul, fi_nat, fi_nat, fi_nat]
        refine Ev.step (fun q => by rw [spec_l6sTimes.l1, wsm (i := (i : Int) + k) (by omega) (by omega), if_pos (by omega), if_pos (by omega), if_pos (by omega), if_neg hz, if_pos (by omega), if_pos (by omega), if_pos (by omega), if_pos (by omega), if_neg (by omega), e1, rF _ (i + k) (by omega), rF F i hi, rF G k (by omega), Int.toNat_natCast, wsm (i := (((F i).val : Nat) : Int) * _) (by omega) (by omega), wsm (i := _ + _) (by omega) (by omega), Int.tmod_eq_emod_of_nonneg b5, e2, wsm (i := (k : Int) + 1) (by omega) (by omega)]) ?_
        exact ih (k + 1) (by omega)
  have h0 : ∀ (d i : Nat), i + d = 100 → Ev (fun q => spec_l6sTimes.l0 q p (lstF (nn p) 100 F) (lstF (nn p) 100 G) (lstF (nn p) 100 (pS F G i 0)) (i : Int)) (lstF (nn p) 100 (mulP F G)) := by
    intro d
    induction d with
    | zero =>
      intro i hi
      obtain rfl : i = 100 := by omega
      have e : lstF (nn p) 100 (pS F G 100 0) = lstF (nn p) 100 (mulP F G) := lst_congr fun r hr => pS_end F G r 100 hr
      rw [e]
      exact Ev.step (f := fun _ => some (lstF (nn p) 100 (mulP F G))) (fun q => by rw [spec_l6sTimes.l0, if_neg (by omega)]) (Ev.now _)
    | succ d ih =>
      intro i hi
      by_cases hz : rd (lstF (nn p) 100 F) (i : Int) = 0
      · have e : lstF (nn p) 100 (pS F G i 0) = lstF (nn p) 100 (pS F G (i + 1) 0) := lst_congr fun r _ => (pS_zero F G i (by rw [rF F i (by omega)] at hz; exact Fin.ext (by show (F i).val = 0; omega)) r).symm
        rw [e]
        refine Ev.step (fun q => by rw [spec_l6sTimes.l0, if_pos (by omega), if_pos (by omega), if_pos (by omega), if_pos hz, wsm (by omega) (by omega)]) ?_
        exact ih (i + 1) (by omega)
      · refine Ev.step (fun q => by rw [spec_l6sTimes.l0, if_pos (by omega), if_pos (by omega), if_pos (by omega), if_neg hz]) ?_
        exact h1 i _ (by omega) (ih (i + 1) (by omega)) (100 - i) 0 (by omega)
  have e : List.replicate 100 (0 : Int) = lstF (nn p) 100 (pS F G 0 0) := lst_eq hp ⟨by simp, fun x hx => by have := (List.mem_replicate.1 hx).2; omega⟩ _ fun r hr => by
    rw [pS_start]
    simp only [fn, rd, Int.toNat_natCast, List.getD_eq_getElem?_getD, List.getElem?_replicate, if_pos hr, Option.getD_some, fi_zero]
  unfold spec_l6sTimes.f
  refine Ev.yes (by omega) ?_
  rw [e]
  exact h0 100 0 rfl

end Go.Proofs.Ytmgbpmihbljngaa.PA
namespace Go.Proofs.Ytmgbpmihbljngaa.PA
open Go.RowKit Go.Proofs.YtmgbpmihbljngaaW.PrintWords Go.Proofs.YtmgbpmihbljngaaW.PrintLast Go.Proofs.YtmgbpmihbljngaaW.PrintMore
set_option linter.unusedVariables false
set_option linter.unusedSimpArgs false

/-- the cubics of the base, as polynomials -/
def basS (p : Int) (Q : List (Int × Int × Int)) (i : Nat) : Nat → Fq (nn p) := sprd (basF p Q i)
/-- the numbers of the twenty products: a row for each power -/
def surT (p : Int) (Q : List (Int × Int × Int)) : List (List Int) := (List.range 100).map fun r => lstF (nn p) 20 fun c => proT (basS p Q) c r
/-- the surface of six points -/
def surP (p : Int) (Q : List (Int × Int × Int)) : List Int := (nullP p 20 (surT p Q)).getD 0 []
theorem surT_ok {p : Int} (hp : primeB p = true) (Q : List (Int × Int × Int)) : okR p 20 (surT p Q) := fun r hr => by
  obtain ⟨c, _, rfl⟩ := List.mem_map.1 hr
  exact lst_ok hp 20 _
theorem gen_gen3 {p : Int} {Q : List (Int × Int × Int)} (h : genB p Q = true) : gen3 (ptL p Q) := by
  obtain ⟨hp, h6, ha, _⟩ := genB_prime h
  refine gen3_of fun i j k hi hj hk => ?_
  have hc := (apart_facts ha).2 i j k (by omega) hj hk
  intro e
  rw [colB, beq_eq_false_iff_ne] at hc
  refine hc (Int.emod_eq_zero_of_dvd ?_)
  rw [← fp_zero hp]
  simp only [fi_add, fi_mul, fi_sub]
  simp only [ev3, crossL, ptL, p3] at e
  grind
theorem sur_ne {p : Int} {Q : List (Int × Int × Int)} (h : genB p Q = true) : nullP p 20 (surT p Q) ≠ [] := by
  obtain ⟨hp, h6, _, _⟩ := genB_prime h
  refine rel20 hp h6 (gen_gen3 h) (surT_ok hp Q) fun r hr => ?_
  obtain ⟨e, _, rfl⟩ := List.mem_map.1 hr
  exact ⟨e, fun c hc => fi_fn_lst _ c hc⟩
theorem sur_mem {p : Int} {Q : List (Int × Int × Int)} (h : genB p Q = true) : surP p Q ∈ nullP p 20 (surT p Q) := by
  have := sur_ne h
  exact mem_getD (List.length_pos_iff.2 this)
theorem sur_ok {p : Int} {Q : List (Int × Int × Int)} (h : genB p Q = true) : (surP p Q).length = 20 ∧ ∀ x ∈ surP p Q, 0 ≤ x ∧ x < p := by
  obtain ⟨hp, h6, _, _⟩ := genB_prime h
  obtain ⟨N, e, hN, _, _⟩ := nullP_rref hp (surT_ok hp Q)
  have hm := sur_mem h
  rw [e] at hm
  obtain ⟨z, hz, ez⟩ := List.mem_map.1 hm
  rw [← ez]
  exact hN.ok z hz
theorem basP_row {p : Int} {Q : List (Int × Int × Int)} (hp : primeB p = true) (i : Nat) (hi : i < (basP p Q).length) : ((basP p Q).getD i []).length = 10 ∧ ∀ x ∈ (basP p Q).getD i [], 0 ≤ x ∧ x < p := by
  obtain ⟨N, e, hN, _, _⟩ := nullP_rref hp (bas_ok hp Q)
  have hm := mem_getD hi
  rw [basP, e] at hm
  obtain ⟨z, hz, ez⟩ := List.mem_map.1 hm
  rw [basP, e, ← ez]
  exact hN.ok z hz
theorem l6sOf_ev {p : Int} (l : List S43) (hg : genB p (tps l) = true) : Ev (fun k => spec_l6sOf.f k p l) (surP p (tps l)) := by
  obtain ⟨hp, h6, ha, _⟩ := genB_prime hg
  have hb := prime_bd hp
  have hlen : (tps l).length = l.length := by simp [tps]
  have hin : ∀ j, j < l.length → inP p ((tps l).getD j (0, 0, 0)) := fun j hj => ptB_inP ((apart_facts ha).1 j (by omega))
  have hbl := bas_len hp h6 (gen_gen3 hg)
  generalize hQ : tps l = Q at *
  generalize hB : basP p Q = B at *
  have hS : ∀ i, i < 4 → Ev (fun k => spec_l6sSpread.f k (B.getD i [])) (lstF (nn p) 100 (basS p Q i)) := fun i hi => by
    have := basP_row (Q := Q) hp i (by rw [hB]; omega)
    rw [hB] at this
    have h := l6sSpread_ev hp _ this
    rwa [show (sprd fun j => fi (nn p) (fn (B.getD i []) j)) = basS p Q i by rw [← hB]; rfl] at h
  generalize hC : ((List.range 4).map fun i => lstF (nn p) 100 (basS p Q i)) = C
  have lC : C.length = 4 := by rw [← hC]; simp
  have aC : ∀ i : Nat, i < 4 → rd_L4 C (i : Int) = lstF (nn p) 100 (basS p Q i) := fun i hi => by
    rw [rdL_at, ← hC, List.getD_eq_getElem?_getD]; simp [hi]
  have hT : ∀ (F : Nat → Fq (nn p)) (i : Nat), i < 4 → Ev (fun k => spec_l6sTimes.f k p (lstF (nn p) 100 F) (rd_L4 C (i : Int))) (lstF (nn p) 100 (mulP F (basS p Q i))) := fun F i hi => by rw [aC i hi]; exact l6sTimes_ev hp F _
  -- the rows
  have h4 : ∀ (D : List (List Int)), D = ((List.range 20).map fun c => lstF (nn p) 100 (proT (basS p Q) c)) → ∀ (d i : Nat) (acc : List (List Int)), i + d = 100 → acc = (surT p Q).take i → Ev (fun q => spec_l6sOf.l4 q p D acc (i : Int)) (surP p Q) := by
    intro D hD
    have lD : D.length = 20 := by rw [hD]; simp
    have aD : ∀ c : Nat, c < 20 → rd_L4 D (c : Int) = lstF (nn p) 100 (proT (basS p Q) c) := fun c hc => by
      rw [rdL_at, hD, List.getD_eq_getElem?_getD]; simp [hc]
    have h5 : ∀ (r : Nat) (acc : List (List Int)) (R : List Int), r < 100 → acc.length ≤ 1000 → Ev (fun q => spec_l6sOf.l4 q p D (acc ++ [lstF (nn p) 20 fun c => proT (basS p Q) c r]) ((r + 1 : Nat) : Int)) R → ∀ (d c : Nat) (row : List Int), c + d = 20 → row = lstF (nn p) c (fun c => proT (basS p Q) c r) → Ev (fun q => spec_l6sOf.l5 q p D acc (r : Int) row (c : Int)) R := by
      intro r acc R hr hacc hend d
      induction d with
      | zero =>
        intro c row hc hrow
        obtain rfl : c = 20 := by omega
        subst hrow
        refine Ev.step (fun q => by rw [spec_l6sOf.l5, if_neg (by omega), if_pos (by omega), wsm (by omega) (by omega)]) ?_
        exact hend
      | succ d ih =>
        intro c row hc hrow
        have hl : row.length = c := by rw [hrow, lst_len]
        refine Ev.step (fun q => by rw [spec_l6sOf.l5, if_pos (by omega), if_pos (by omega), if_pos (by omega), if_pos (by omega), aD c (by omega), if_pos (by rw [lst_len]; omega), if_pos (by omega), wsm (by omega) (by omega)]) ?_
        refine ih (c + 1) _ (by omega) ?_
        have e : rd (lstF (nn p) 100 (proT (basS p Q) c)) (r : Int) = (((proT (basS p Q) c r).val : Nat) : Int) := fn_lst _ r hr
        rw [hrow, e, lstF, lstF, List.range_succ, List.map_append]
        rfl
    intro d
    induction d with
    | zero =>
      intro i acc hi hacc
      rw [List.take_of_length_le (by simp [surT]; omega)] at hacc
      subst hacc
      have hn : Ev (fun k => spec_l4Null.f k p (surT p Q) 20) (nullP p 20 (surT p Q)) := l4Null_ev hp (w := 20) (by omega) (surT p Q) (by simp [surT]) (surT_ok hp Q)
      refine Ev.step (fun q => by rw [spec_l6sOf.l4, if_neg (by omega)]) (Ev.bind hn ?_)
      have hne : 0 < (nullP p 20 (surT p Q)).length := List.length_pos_iff.2 (sur_ne hg)
      refine Ev.yes (by omega) ?_
      rw [show ((0 : Int)) = ((0 : Nat) : Int) from rfl, rdL_at]
      exact Ev.now _
    | succ d ih =>
      intro i acc hi hacc
      have hal : acc.length ≤ 1000 := by rw [hacc, List.length_take]; simp [surT]; omega
      refine Ev.step (fun q => by rw [spec_l6sOf.l4, if_pos (by omega)]) ?_
      refine h5 i acc _ (by omega) hal (ih (i + 1) _ (by omega) ?_) 20 0 [] rfl rfl
      rw [hacc, List.take_add_one, surT, List.getElem?_map, List.getElem?_range (by omega)]
      rfl
  -- the products
  have h3 : ∀ (i j : Nat) (acc : List (List Int)) (R : List Int), i < 4 → j < 4 → acc.length ≤ 1000 → ∀ (d k : Nat), k + d = 4 → acc.length ≤ 1000 - d → ∀ M, M = acc ++ (List.range' k d).map (fun k => lstF (nn p) 100 (mulP (mulP (basS p Q i) (basS p Q j)) (basS p Q k))) → Ev (fun q => spec_l6sOf.l2 q p C M (i : Int) ((j + 1 : Nat) : Int)) R → Ev (fun q => spec_l6sOf.l3 q p C acc (i : Int) (j : Int) (lstF (nn p) 100 (mulP (basS p Q i) (basS p Q j))) (k : Int)) R := by
    intro i j acc R hi hj ha d
    induction d generalizing acc with
    | zero =>
      intro k hk _ M hM hend
      simp at hM
      subst hM
      refine Ev.step (fun q => by rw [spec_l6sOf.l3, if_neg (by omega), wsm (by omega) (by omega)]) ?_
      exact hend
    | succ d ih =>
      intro k hk ha2 M hM hend
      refine Ev.step (fun q => by rw [spec_l6sOf.l3, if_pos (by omega), if_pos (by omega), if_pos (by omega)]) (Ev.bind (hT _ k (by omega)) ?_)
      refine Ev.yes (show acc.length < 5864062014805 by omega) ?_
      rw [wsm (by omega) (by omega)]
      refine ih (acc ++ [lstF (nn p) 100 (mulP (mulP (basS p Q i) (basS p Q j)) (basS p Q k))]) (by simp; omega) (k + 1) (by omega) (by simp; omega) M ?_ hend
      rw [hM, List.range'_succ]
      simp
  have h2 : ∀ (i : Nat) (R : List Int), i < 4 → ∀ (d j : Nat) (acc : List (List Int)), j + d = 4 → acc.length ≤ 900 - 20 * d → ∀ M, M = acc ++ ((List.range' j d).map fun j => (List.range' j (4 - j)).map (fun k => lstF (nn p) 100 (mulP (mulP (basS p Q i) (basS p Q j)) (basS p Q k)))).flatten → Ev (fun q => spec_l6sOf.l1 q p C M ((i + 1 : Nat) : Int)) R → Ev (fun q => spec_l6sOf.l2 q p C acc (i : Int) (j : Int)) R := by
    intro i R hi d
    induction d with
    | zero =>
      intro j acc hj _ M hM hend
      simp at hM
      subst hM
      refine Ev.step (fun q => by rw [spec_l6sOf.l2, if_neg (by omega), wsm (by omega) (by omega)]) ?_
      exact hend
    | succ d ih =>
      intro j acc hj ha M hM hend
      have ht := hT (basS p Q i) j (by omega)
      rw [← aC i hi] at ht
      refine Ev.step (fun q => by rw [spec_l6sOf.l2, if_pos (by omega), if_pos (by omega), if_pos (by omega), if_pos (by omega), if_pos (by omega)]) (Ev.bind ht ?_)
      refine h3 i j acc R hi (by omega) (by omega) (4 - j) j (by omega) (by omega) _ rfl (ih (j + 1) _ (by omega) (by simp; omega) M ?_ hend)
      rw [hM, List.range'_succ]
      simp
  have h1 : ∀ (R : List Int) (d i : Nat) (acc : List (List Int)), i + d = 4 → acc.length ≤ 800 - 100 * d → ∀ M, M = acc ++ ((List.range' i d).map fun i => ((List.range' i (4 - i)).map fun j => (List.range' j (4 - j)).map (fun k => lstF (nn p) 100 (mulP (mulP (basS p Q i) (basS p Q j)) (basS p Q k)))).flatten).flatten → Ev (fun q => spec_l6sOf.l4 q p M [] 0) R → Ev (fun q => spec_l6sOf.l1 q p C acc (i : Int)) R := by
    intro R d
    induction d with
    | zero =>
      intro i acc hi _ M hM hend
      simp at hM
      subst hM
      exact Ev.step (fun q => by rw [spec_l6sOf.l1, if_neg (by omega)]) hend
    | succ d ih =>
      intro i acc hi ha M hM hend
      refine Ev.step (fun q => by rw [spec_l6sOf.l1, if_pos (by omega)]) ?_
      have hlen : (((List.range' i (4 - i)).map fun j => (List.range' j (4 - j)).map (fun k => lstF (nn p) 100 (mulP (mulP (basS p Q i) (basS p Q j)) (basS p Q k)))).flatten).length ≤ 16 := by
        rcases (show i = 0 ∨ i = 1 ∨ i = 2 ∨ i = 3 by omega) with rfl | rfl | rfl | rfl <;> simp [List.range'] <;> omega
      refine h2 i R (by omega) (4 - i) i acc (by omega) (by omega) _ rfl (ih (i + 1) _ (by omega) (by rw [List.length_append]; omega) M ?_ hend)
      rw [hM, List.range'_succ]
      simp
  have h0 : ∀ (d i : Nat) (acc : List (List Int)), i + d = 4 → acc = C.take i → Ev (fun q => spec_l6sOf.l0 q p B acc (i : Int)) (surP p Q) := by
    intro d
    induction d with
    | zero =>
      intro i acc hi hacc
      rw [List.take_of_length_le (by omega)] at hacc
      subst hacc
      refine Ev.step (fun q => by rw [spec_l6sOf.l0, if_neg (by omega)]) ?_
      refine h1 _ 4 0 [] rfl (by simp) _ rfl (h4 _ ?_ 100 0 [] rfl rfl)
      rfl
    | succ d ih =>
      intro i acc hi hacc
      have hs := hS i (by omega)
      have hal : acc.length ≤ 1000 := by rw [hacc, List.length_take]; omega
      refine Ev.step (fun q => by rw [spec_l6sOf.l0, if_pos (by omega), if_pos (by omega), if_pos (by omega), rdL_at]) (Ev.bind hs ?_)
      refine Ev.yes (show acc.length < 5864062014805 by omega) ?_
      rw [wsm (by omega) (by omega)]
      refine ih (i + 1) _ (by omega) ?_
      rw [hacc, List.take_add_one, ← hC, List.getElem?_map, List.getElem?_range (by omega)]
      rfl
  unfold spec_l6sOf.f
  have hbase := l5Base_ev hp l (by omega) (by rw [hQ]; exact hin)
  rw [hQ, hB] at hbase
  exact Ev.bind hbase (h0 4 0 [] rfl rfl)

end Go.Proofs.Ytmgbpmihbljngaa.PA
namespace Go.Proofs.Ytmgbpmihbljngaa.PA
open Go.RowKit Go.Proofs.YtmgbpmihbljngaaW.PrintWords Go.Proofs.YtmgbpmihbljngaaW.PrintLast Go.Proofs.YtmgbpmihbljngaaW.PrintMore
set_option linter.unusedVariables false
set_option linter.unusedSimpArgs false

/-- the same sums, exactly -/
def xs2 (f a : List Int) (two : Int) : Nat → Int → Int → Int → Int
  | 0, s, _, _ => s
  | d + 1, s, n, l => xs2 f a two d (s + rd f n * two * rd a l) (n + 1) (l + 1)
def xs1 (f a : List Int) (i : Int) : Nat → Int → Int → Int → Int
  | 0, s, _, _ => s
  | d + 1, s, n, j => xs1 f a i d (xs2 f a (rd a i * rd a j) (d + 1) s n j) (n + (d + 1 : Nat)) (j + 1)
def xs0 (f a : List Int) : Nat → Int → Int → Int → Int
  | 0, s, _, _ => s
  | d + 1, s, n, i => xs0 f a d (xs1 f a i (d + 1) s n i) (n + tri (d + 1)) (i + 1)
/-- the value before it is taken modulo p -/
def xval (f a : List Int) : Int := xs0 f a 4 0 0 0
/-- small numbers, as those of a form and of a place are -/
def small (l : List Int) : Prop := ∀ i, 0 ≤ rd l i ∧ rd l i ≤ 30
theorem small_of {p : Int} {l : List Int} {n : Nat} (h : numsB p l n = true) : small l := by
  intro i
  obtain ⟨hp, hl, hr⟩ := numsB_prime h
  have hb := prime_bd hp
  unfold rd
  rw [List.getD_eq_getElem?_getD]
  cases hi : l[i.toNat]? with
  | none => simp
  | some x => have := hr x (List.mem_of_getElem? hi); simp; omega
theorem mul_le_of {x y a b : Int} (h0 : 0 ≤ x) (h1 : x ≤ a) (h2 : 0 ≤ y) (h3 : y ≤ b) : 0 ≤ x * y ∧ x * y ≤ a * b :=
  ⟨Int.mul_nonneg h0 h2, Int.le_trans (Int.mul_le_mul_of_nonneg_right h1 h2) (Int.mul_le_mul_of_nonneg_left h3 (Int.le_trans h0 h1))⟩
theorem vs2_eq (f a : List Int) (hf : small f) (ha : small a) (two : Int) (ht : 0 ≤ two ∧ two ≤ 900) (d : Nat) : ∀ (s n l : Int), 0 ≤ s → s + d * 1000000 ≤ 100000000 →
    vs2 f a two d s n l = xs2 f a two d s n l ∧ 0 ≤ xs2 f a two d s n l ∧ xs2 f a two d s n l ≤ s + d * 1000000 := by
  induction d with
  | zero => intro s n l h0 h1; exact ⟨rfl, h0, by rw [xs2]; omega⟩
  | succ d ih =>
    intro s n l h0 h1
    have m1 := mul_le_of (hf n).1 (hf n).2 ht.1 ht.2
    have m2 := mul_le_of m1.1 m1.2 (ha l).1 (ha l).2
    rw [vs2, xs2, wsm (i := rd f n * two) (by omega) (by omega), wsm (i := rd f n * two * rd a l) (by omega) (by omega), wsm (by omega) (by omega)]
    have ih := ih (s + rd f n * two * rd a l) (n + 1) (l + 1) (by omega) (by omega)
    refine ⟨ih.1, ih.2.1, ?_⟩
    have := ih.2.2
    omega
theorem vs1_eq (f a : List Int) (hf : small f) (ha : small a) (i : Int) (d : Nat) : ∀ (s n j : Int), 0 ≤ s → s + (tri d) * 1000000 ≤ 100000000 →
    (vs1 f a i d s n j).1 = xs1 f a i d s n j ∧ 0 ≤ xs1 f a i d s n j ∧ xs1 f a i d s n j ≤ s + (tri d) * 1000000 := by
  induction d with
  | zero => intro s n j h0 h1; exact ⟨rfl, h0, by rw [xs1]; omega⟩
  | succ d ih =>
    intro s n j h0 h1
    have m1 := mul_le_of (ha i).1 (ha i).2 (ha j).1 (ha j).2
    rw [tri] at h1
    rw [vs1, xs1, wsm (i := rd a i * rd a j) (by omega) (by omega)]
    have h2 := vs2_eq f a hf ha (rd a i * rd a j) (by omega) (d + 1) s n j h0 (by omega)
    rw [h2.1]
    have ih := ih (xs2 f a (rd a i * rd a j) (d + 1) s n j) (n + (d + 1 : Nat)) (j + 1) h2.2.1 (by omega)
    refine ⟨ih.1, ih.2.1, ?_⟩
    have h3 := ih.2.2
    have h4 := h2.2.2
    rw [tri]
    omega
theorem vs0_eq (f a : List Int) (hf : small f) (ha : small a) : vs0 f a 4 0 0 0 = xval f a ∧ 0 ≤ xval f a ∧ xval f a ≤ 100000000 := by
  have h4 := vs1_eq f a hf ha 0 4 0 0 0 (by omega) (by simp [tri])
  have h3 := vs1_eq f a hf ha 1 3 _ (0 + tri 4) 1 h4.2.1 (by have := h4.2.2; simp [tri] at this ⊢; omega)
  have h2 := vs1_eq f a hf ha 2 2 _ (0 + tri 4 + tri 3) 2 h3.2.1 (by have := h4.2.2; have := h3.2.2; simp [tri] at *; omega)
  have h1 := vs1_eq f a hf ha 3 1 _ (0 + tri 4 + tri 3 + tri 2) 3 h2.2.1 (by have := h4.2.2; have := h3.2.2; have := h2.2.2; simp [tri] at *; omega)
  unfold xval
  simp only [vs0, xs0, vs1_n]
  simp only [Int.zero_add, show (1 : Int) + 1 = 2 from rfl, show (2 : Int) + 1 = 3 from rfl] at *
  rw [h4.1, h3.1, h2.1, h1.1]
  refine ⟨rfl, h1.2.1, ?_⟩
  have a1 := h1.2.2
  have a2 := h2.2.2
  have a3 := h3.2.2
  have a4 := h4.2.2
  simp [tri] at *
  omega
theorem valI_eq {p : Int} {f a : List Int} (hf : small f) (ha : small a) : valI p f a = xval f a % p := by
  unfold valI
  rw [(vs0_eq f a hf ha).1, Int.tmod_eq_emod_of_nonneg (vs0_eq f a hf ha).2.1]
theorem iValue_ev (p : Int) (f a : List Int) (hp : 7 ≤ p ∧ p ≤ 31) (hf : f.length = 20) (ha : a.length = 4) (sf : small f) (sa : small a) : Ev (fun k => impl_valueAt.f k p f a) (xval f a % p) := by
  have h := valueAt_ev p f a (by omega) hf ha
  rwa [valI_eq sf sa] at h

end Go.Proofs.Ytmgbpmihbljngaa.PA
namespace Go.Proofs.Ytmgbpmihbljngaa.PA
open Go.RowKit Go.Proofs.YtmgbpmihbljngaaW.PrintWords Go.Proofs.YtmgbpmihbljngaaW.PrintLast Go.Proofs.YtmgbpmihbljngaaW.PrintMore
set_option linter.unusedVariables false
set_option linter.unusedSimpArgs false

theorem sur_nums {p : Int} {Q : List (Int × Int × Int)} (h : genB p Q = true) : numsB p (surP p Q) 20 = true := numsB_mk (genB_prime h).1 (sur_ok h).1 (sur_ok h).2
/-- is the place on the surface -/
def hasP (p : Int) (Q : List (Int × Int × Int)) (a : List Int) : Bool := genB p Q && (placeB p a && (xval (surP p Q) a % p == 0))

end Go.Proofs.Ytmgbpmihbljngaa.PA
namespace Go.Proofs.Ytmgbpmihbljngaa.PA
open Go.RowKit Go.Proofs.YtmgbpmihbljngaaW.PrintWords Go.Proofs.YtmgbpmihbljngaaW.PrintLast Go.Proofs.YtmgbpmihbljngaaW.PrintMore
set_option linter.unusedVariables false
set_option linter.unusedSimpArgs false

theorem isPoint_eq (p x y z : Int) : impl_isPoint.f p x y z = some (ptB p x y z) := by
  unfold impl_isPoint.f
  have e := areNumbers_eq p [x, y, z] 3
  rw [show ((3 : Nat) : Int) = 3 from rfl] at e
  rw [e, Option.bind_some, ptB]
  cases h : numsB p [x, y, z] 3 <;> rfl

end Go.Proofs.Ytmgbpmihbljngaa.PA
namespace Go.Proofs.Ytmgbpmihbljngaa.PA
open Go.RowKit Go.Proofs.YtmgbpmihbljngaaW.PrintWords Go.Proofs.YtmgbpmihbljngaaW.PrintLast Go.Proofs.YtmgbpmihbljngaaW.PrintMore
set_option linter.unusedVariables false
set_option linter.unusedSimpArgs false

theorem inverse_table : ∀ p ∈ ([7, 11, 13, 17, 19, 23, 29, 31] : List Int), ∀ x ∈ List.range 31, (x : Int) < p → (x : Int) ≠ 0 → impl_inverse.f 40 (x : Int) p = some (invP p (x : Int)) := by decide +kernel
theorem inverse_ev {p : Int} (hp : primeB p = true) {x : Int} (h0 : 0 ≤ x) (h1 : x < p) (hx : x ≠ 0) : Ev (fun k => impl_inverse.f k x p) (invP p x) := by
  have hb := prime_bd hp
  refine Ev.of (impl_inverse.mono x p) (k := 40) ?_
  have h2 := inverse_table p (by have := primeB_cases hp; simp; omega) x.toNat (by simp; omega) (by omega) (by omega)
  rwa [show ((x.toNat : Nat) : Int) = x by omega] at h2
theorem tmod_small {x p : Int} (hp : 7 ≤ p ∧ p ≤ 31) (h0 : -1000000000 ≤ x) (h1 : x ≤ 1000000000) : modV p (wrap64 x) = x % p := tmodW_small hp h0 h1
theorem lessFrom_eq {p t : Int} (hp : 7 ≤ p ∧ p ≤ 31) (ht : 0 ≤ t ∧ t < p) (h : List Int) (hh : ∀ x ∈ h, 0 ≤ x ∧ x < p) : ∀ (r : List Int) (i : Nat), (∀ x ∈ r, 0 ≤ x ∧ x < p) → i + r.length = h.length → lessFrom p t h i r = lessP p t (h.drop i) r
  | [], _, _, _ => by simp [lessFrom, lessP]
  | x :: r, i, hr, hl => by
    have hx := hr x (by simp)
    simp only [List.length_cons] at hl
    have hy : 0 ≤ rd h (i : Int) ∧ rd h (i : Int) < p := by rw [rd_at h i (by omega)]; exact hh _ (List.getElem_mem _)
    have hm := mul30 hp.2 ht.1 ht.2 hy.1 hy.2
    rw [rd_drop h i (by omega), lessFrom, lessFrom_eq hp ht h hh r (i + 1) (fun z hz => hr z (by simp [hz])) (by omega), wsm (i := t * rd h (i : Int)) (by omega) (by omega), tmod_small hp (by omega) (by omega)]
    simp [lessP]
theorem lessRow_eq {p : Int} {w : Nat} (hp : 7 ≤ p ∧ p ≤ 31) (c : Nat) (hc : c < w) {h r : List Int} (hh : h.length = w ∧ ∀ x ∈ h, 0 ≤ x ∧ x < p) (hr : r.length = w ∧ ∀ x ∈ r, 0 ≤ x ∧ x < p) : lessRow p c h r = lessP p (rd r (c : Int)) h r := by
  rw [lessRow, lessFrom_eq hp (ok_rd hr c hc) h hh.2 r 0 hr.2 (by omega), List.drop_zero]
theorem scaleRow_eq {p b : Int} {w : Nat} (hp : 7 ≤ p ∧ p ≤ 31) (hb : 0 ≤ b ∧ b < p) {r : List Int} (hr : r.length = w ∧ ∀ x ∈ r, 0 ≤ x ∧ x < p) : scaleRow p b r = scaleP p b r := by
  rw [scaleRow, scaleP]
  refine List.map_congr_left fun x hx => ?_
  have h1 := hr.2 x hx
  have hm := mul30 hp.2 h1.1 h1.2 hb.1 hb.2
  rw [wsm (by omega) (by omega), Int.tmod_eq_emod_of_nonneg hm.1]
theorem redCols_ev {p : Int} (hp : primeB p = true) {w : Nat} : ∀ (d c : Nat) (L O : List (List Int)), c + d = w → okR p w L → okR p w O → Ev (fun k => redCols k p d c L O) (redP p d c L O)
  | 0, _, _, O, _, _, _ => Ev.k rfl
  | d + 1, c, L, O, hw, hL, hO => by
    have hb := prime_bd hp
    unfold redCols redP
    cases hf : L.findIdx? (fun row => rd row (c : Int) != 0) with
    | none => exact redCols_ev hp d (c + 1) L O (by omega) hL hO
    | some i =>
      simp only
      obtain ⟨hi, hne⟩ := find_lt hf
      have hx := hL _ (mem_getD hi)
      have hxr := ok_rd hx c (by omega)
      have hne' : rd (L.getD i []) (c : Int) ≠ 0 := by simpa using hne
      have hinv := invP_spec hp hxr.1 hxr.2
      refine Ev.bind (inverse_ev hp hxr.1 hxr.2 hne') ?_
      have hs := scale_ok (p := p) (b := invP p (rd (L.getD i []) (c : Int))) (by omega) hx.1
      rw [scaleRow_eq hb ⟨hinv.2.1, hinv.2.2.1⟩ hx]
      have e1 : ∀ M : List (List Int), okR p w M → M.map (lessRow p c (scaleP p (invP p (rd (L.getD i []) (c : Int))) (L.getD i []))) = M.map fun r => lessP p (rd r (c : Int)) (scaleP p (invP p (rd (L.getD i []) (c : Int))) (L.getD i [])) r :=
        fun M hM => List.map_congr_left fun r hr => lessRow_eq hb c (by omega) hs (hM r hr)
      rw [e1 _ (okR_erase i hL), e1 _ hO]
      exact redCols_ev hp d (c + 1) _ _ (by omega) (okR_less _ (by omega) hs.1 (okR_erase i hL)) (okR_app (okR_less _ (by omega) hs.1 hO) (okR_cons hs (okR_nil p w)))
/-- reduced, on rows of one length -/
theorem reduced_ev {p : Int} (hp : primeB p = true) {w : Nat} (L : List (List Int)) (hw : w < 1000000) (hl : L.length < 1000000) (hL : ∀ r ∈ L, r.length = w) : Ev (fun k => impl_reduced.f k p L) (redP p w 0 (L.map fun r => r.map (modV p)) []) := by
  have hb := prime_bd hp
  have hok : okR p w (L.map fun r => r.map (modV p)) := fun x hx => by
    obtain ⟨r, hr, rfl⟩ := List.mem_map.1 hx
    refine ⟨by rw [List.length_map, hL r hr], fun y hy => ?_⟩
    obtain ⟨z, _, rfl⟩ := List.mem_map.1 hy
    have h2 := tmod_bd (p := p) (by omega) z
    rw [modV, wsm (by omega) (by omega), Int.tmod_eq_emod_of_nonneg (by omega)]
    exact ⟨Int.emod_nonneg _ (by omega), Int.emod_lt_of_pos _ (by omega)⟩
  cases L with
  | nil =>
    have e : ∀ d c, redP p d c [] [] = [] := fun d => by
      induction d with
      | zero => intro c; rfl
      | succ d ih => intro c; rw [redP]; exact ih (c + 1)
    rw [List.map_nil, e]
    refine Ev.k (α := List (List Int)) (x := some []) rfl |>.congr fun k => ?_
    rw [impl_reduced.f, if_neg (by omega), if_pos ⟨by simp, by simp, by simp⟩]
    simp [redCols]
  | cons r L =>
    have hr := hL r (by simp)
    refine (redCols_ev hp w 0 _ [] (by omega) hok (okR_nil p w)).congr fun k => ?_
    rw [impl_reduced.f, if_neg (by omega), if_pos ⟨hl, by simpa [hr] using hw, by simpa [hr] using hL⟩]
    simp [hr]
theorem modV_self {p x : Int} (hp : primeB p = true) (h0 : 0 ≤ x) (h1 : x < p) : modV p x = x := by
  have hb := prime_bd hp
  rw [modV, Int.tmod_eq_of_lt h0 h1, wsm (by omega) (by omega), Int.tmod_eq_emod_of_nonneg (by omega), Int.add_emod_right, Int.emod_eq_of_lt h0 h1]
theorem reduced_ok {p : Int} (hp : primeB p = true) {w : Nat} (L : List (List Int)) (hw : w < 1000000) (hl : L.length < 1000000) (hL : okR p w L) : Ev (fun k => impl_reduced.f k p L) (redP p w 0 L []) := by
  have h := reduced_ev hp L hw hl (fun r hr => (hL r hr).1)
  have e : (L.map fun r => r.map (modV p)) = L := by
    rw [List.map_congr_left (g := id)]
    · simp
    · intro r hr
      rw [List.map_congr_left (g := id)]
      · simp
      · intro x hx; have := (hL r hr).2 x hx; exact modV_self hp this.1 this.2
  rwa [e] at h

end Go.Proofs.Ytmgbpmihbljngaa.PA
namespace Go.Proofs.Ytmgbpmihbljngaa.PA
open Go.RowKit Go.Proofs.YtmgbpmihbljngaaW.PrintWords Go.Proofs.YtmgbpmihbljngaaW.PrintLast Go.Proofs.YtmgbpmihbljngaaW.PrintMore
set_option linter.unusedVariables false
set_option linter.unusedSimpArgs false

/-- the line through two points, as the program tells it -/
def crsI (a b : Int × Int × Int) : List Int := [a.2.1 * b.2.2 - a.2.2 * b.2.1, a.2.2 * b.1 - a.1 * b.2.2, a.1 * b.2.1 - a.2.1 * b.1]
theorem icross_eq {p : Int} (hp : 7 ≤ p ∧ p ≤ 31) (a b : Int × Int × Int) (ha : inP p a) (hb : inP p b) : impl_cross.f a.1 a.2.1 a.2.2 b.1 b.2.1 b.2.2 = some (crsI a b) := by
  obtain ⟨a0, a1, a2⟩ := ha
  obtain ⟨b0, b1, b2⟩ := hb
  have m1 := mul_bd hp a1 b2
  have m2 := mul_bd hp a2 b1
  have m3 := mul_bd hp a2 b0
  have m4 := mul_bd hp a0 b2
  have m5 := mul_bd hp a0 b1
  have m6 := mul_bd hp a1 b0
  unfold impl_cross.f
  rw [wsm (i := a.2.1 * b.2.2) (by omega) (by omega), wsm (i := a.2.2 * b.2.1) (by omega) (by omega), wsm (i := a.2.2 * b.1) (by omega) (by omega), wsm (i := a.1 * b.2.2) (by omega) (by omega), wsm (i := a.1 * b.2.1) (by omega) (by omega), wsm (i := a.2.1 * b.1) (by omega) (by omega),
    wsm (by omega) (by omega), wsm (by omega) (by omega), wsm (by omega) (by omega)]
  rfl
theorem mul_bd2 {p u y : Int} (hp : 7 ≤ p ∧ p ≤ 31) (hu : -900 ≤ u ∧ u ≤ 900) (hy : 0 ≤ y ∧ y < p) : -30000 ≤ u * y ∧ u * y ≤ 30000 := by
  obtain ⟨y0, y1⟩ := hy
  have h1 : u * y ≤ 900 * y := Int.mul_le_mul_of_nonneg_right hu.2 y0
  have h2 : -900 * y ≤ u * y := Int.mul_le_mul_of_nonneg_right hu.1 y0
  omega
theorem dot_cross {p : Int} (hp : 7 ≤ p ∧ p ≤ 31) (a b c : Int × Int × Int) (ha : inP p a) (hb : inP p b) (hc : inP p c) : Ev (fun k => impl_dot.f k p (crsI a b) [c.1, c.2.1, c.2.2]) (((a.2.1 * b.2.2 - a.2.2 * b.2.1) * c.1 + (a.2.2 * b.1 - a.1 * b.2.2) * c.2.1 + (a.1 * b.2.1 - a.2.1 * b.1) * c.2.2) % p) := by
  obtain ⟨a0, a1, a2⟩ := ha
  obtain ⟨b0, b1, b2⟩ := hb
  obtain ⟨c0, c1, c2⟩ := hc
  have m1 := mul_bd hp a1 b2
  have m2 := mul_bd hp a2 b1
  have m3 := mul_bd hp a2 b0
  have m4 := mul_bd hp a0 b2
  have m5 := mul_bd hp a0 b1
  have m6 := mul_bd hp a1 b0
  have d1 := mul_bd2 hp (u := a.2.1 * b.2.2 - a.2.2 * b.2.1) (by omega) c0
  have d2 := mul_bd2 hp (u := a.2.2 * b.1 - a.1 * b.2.2) (by omega) c1
  have d3 := mul_bd2 hp (u := a.1 * b.2.1 - a.2.1 * b.1) (by omega) c2
  unfold impl_dot.f crsI
  generalize a.2.1 * b.2.2 - a.2.2 * b.2.1 = u0 at *
  generalize a.2.2 * b.1 - a.1 * b.2.2 = u1 at *
  generalize a.1 * b.2.1 - a.2.1 * b.1 = u2 at *
  have e : modV p (u0 * c.1 + u1 * c.2.1 + u2 * c.2.2) = (u0 * c.1 + u1 * c.2.1 + u2 * c.2.2) % p := by
    have := tmod_small (p := p) (x := u0 * c.1 + u1 * c.2.1 + u2 * c.2.2) hp (by omega) (by omega)
    rwa [wsm (by omega) (by omega)] at this
  refine Ev.step (fun q => by rw [impl_dot.l0, if_pos (by simp), if_pos (by omega), if_pos (by simp), if_pos (by simp)]) ?_
  refine Ev.step (fun q => by rw [impl_dot.l0, if_pos (by simp [wrap64]), if_pos (by simp [wrap64]), if_pos (by simp [wrap64]), if_pos (by simp [wrap64])]) ?_
  refine Ev.step (fun q => by rw [impl_dot.l0, if_pos (by simp [wrap64]), if_pos (by simp [wrap64]), if_pos (by simp [wrap64]), if_pos (by simp [wrap64])]) ?_
  refine Ev.step (f := fun _ => some ((u0 * c.1 + u1 * c.2.1 + u2 * c.2.2) % p)) (fun q => ?_) (Ev.now _)
  rw [impl_dot.l0, if_neg (by simp [wrap64])]
  have f0 : wrap64 (0 + 1) = 1 := by rw [wsm (by omega) (by omega)]; rfl
  have f1 : wrap64 (1 + 1) = 2 := by rw [wsm (by omega) (by omega)]; rfl
  have g0 : rd [u0, u1, u2] 0 = u0 := rfl
  have g1 : rd [u0, u1, u2] 1 = u1 := rfl
  have g2 : rd [u0, u1, u2] 2 = u2 := rfl
  have k0 : rd [c.1, c.2.1, c.2.2] 0 = c.1 := rfl
  have k1 : rd [c.1, c.2.1, c.2.2] 1 = c.2.1 := rfl
  have k2 : rd [c.1, c.2.1, c.2.2] 2 = c.2.2 := rfl
  rw [f0, f1, g0, g1, g2, k0, k1, k2, wsm (i := u0 * c.1) (by omega) (by omega), wsm (i := u1 * c.2.1) (by omega) (by omega), wsm (i := u2 * c.2.2) (by omega) (by omega), wsm (i := 0 + u0 * c.1) (by omega) (by omega), wsm (i := 0 + u0 * c.1 + u1 * c.2.1) (by omega) (by omega), wsm (by omega) (by omega), Int.zero_add, modV_f p _ (by omega), e]
  rfl
theorem col_cyc (p : Int) (a b c : Int × Int × Int) : ((((a.2.1 * b.2.2 - a.2.2 * b.2.1) * c.1 + (a.2.2 * b.1 - a.1 * b.2.2) * c.2.1 + (a.1 * b.2.1 - a.2.1 * b.1) * c.2.2) % p = 0) ↔ colB p b c a = true) := by
  rw [colB, beq_iff_eq]
  have e : (a.2.1 * b.2.2 - a.2.2 * b.2.1) * c.1 + (a.2.2 * b.1 - a.1 * b.2.2) * c.2.1 + (a.1 * b.2.1 - a.2.1 * b.1) * c.2.2 = a.1 * (b.2.1 * c.2.2 - b.2.2 * c.2.1) + a.2.1 * (b.2.2 * c.1 - b.1 * c.2.2) + a.2.2 * (b.1 * c.2.1 - b.2.1 * c.1) := by grind
  rw [e]

end Go.Proofs.Ytmgbpmihbljngaa.PA
namespace Go.Proofs.Ytmgbpmihbljngaa.PA
open Go.RowKit Go.Proofs.YtmgbpmihbljngaaW.PrintWords Go.Proofs.YtmgbpmihbljngaaW.PrintLast Go.Proofs.YtmgbpmihbljngaaW.PrintMore
set_option linter.unusedVariables false
set_option linter.unusedSimpArgs false

theorem not_allN_step (f : Nat → Bool) (d i : Nat) : allN f (d + 1) i = (f i && allN f d (i + 1)) := rfl
theorem areApart_ev {p : Int} (l : List S43) (hl : l.length ≤ 1000000) : Ev (fun k => impl_areApart.f k p l) (apartB p (tps l)) := by
  have hlen : (tps l).length = l.length := by simp [tps]
  have e1 : ∀ m : Nat, m < l.length → (rd_T43 l (m : Int)).f0.f0 = ((tps l).getD m (0, 0, 0)).1 ∧ (rd_T43 l (m : Int)).f0.f1 = ((tps l).getD m (0, 0, 0)).2.1 ∧ (rd_T43 l (m : Int)).f0.f2 = ((tps l).getD m (0, 0, 0)).2.2 := fun m hm => by rw [← tpl_at l m hm]; exact ⟨rfl, rfl, rfl⟩
  have h2 : ∀ (i j : Nat), i < l.length → j < i → primeB p = true → (∀ m, m ≤ i → inP p ((tps l).getD m (0, 0, 0))) → ∀ (d m : Nat), m + d = j → Ev (fun k => ap2 k p l i j d m) (!allN (fun m => !colB p ((tps l).getD j (0, 0, 0)) ((tps l).getD m (0, 0, 0)) ((tps l).getD i (0, 0, 0))) d m) := by
    intro i j hi hj hp hin d
    have hb := prime_bd hp
    induction d with
    | zero => intro m _; exact Ev.now _
    | succ d ih =>
      intro m hm
      obtain ⟨a1, a2, a3⟩ := e1 i hi
      obtain ⟨b1, b2, b3⟩ := e1 j (by omega)
      obtain ⟨c1, c2, c3⟩ := e1 m (by omega)
      have hd := dot_cross (p := p) ⟨by omega, by omega⟩ _ _ _ (hin i (by omega)) (hin j (by omega)) (hin m (by omega))
      have hc := col_cyc p ((tps l).getD i (0, 0, 0)) ((tps l).getD j (0, 0, 0)) ((tps l).getD m (0, 0, 0))
      refine Ev.congr (fun k => by rw [ap2, a1, a2, a3, b1, b2, b3, c1, c2, c3, icross_eq (p := p) ⟨by omega, by omega⟩ _ _ (hin i (by omega)) (hin j (by omega)), Option.bind_some]) ?_
      refine Ev.bind hd ?_
      rw [not_allN_step]
      cases h : colB p ((tps l).getD j (0, 0, 0)) ((tps l).getD m (0, 0, 0)) ((tps l).getD i (0, 0, 0)) with
      | true => exact Ev.yes (hc.2 h) (Ev.now _)
      | false =>
        refine Ev.no (fun e => by rw [hc.1 e] at h; cases h) ?_
        have := ih (m + 1) (by omega)
        simpa using this
  have h1 : ∀ (i : Nat), i < l.length → primeB p = true → (∀ m, m ≤ i → inP p ((tps l).getD m (0, 0, 0))) → ∀ (d j : Nat), j + d = i → Ev (fun k => ap1 k p l i d j) (!allN (fun k => allN (fun j => !colB p ((tps l).getD k (0, 0, 0)) ((tps l).getD j (0, 0, 0)) ((tps l).getD i (0, 0, 0))) k 0) d j) := by
    intro i hi hp hin d
    induction d with
    | zero => intro j _; exact Ev.now _
    | succ d ih =>
      intro j hj
      refine Ev.congr (fun k => by rw [ap1]) ?_
      refine Ev.bind (h2 i j hi (by omega) hp hin j 0 (by omega)) ?_
      rw [not_allN_step]
      cases h : allN (fun m => !colB p ((tps l).getD j (0, 0, 0)) ((tps l).getD m (0, 0, 0)) ((tps l).getD i (0, 0, 0))) j 0 with
      | false => exact Ev.yes rfl (Ev.now _)
      | true =>
        refine Ev.no (by simp) ?_
        have := ih (j + 1) (by omega)
        simpa using this
  have h0 : ∀ (d i : Nat), i + d = l.length → (∀ m, m < i → inP p ((tps l).getD m (0, 0, 0))) → Ev (fun k => ap0 k p l d i) (allN (apI p (tps l)) d i) := by
    intro d
    induction d with
    | zero => intro i _ _; exact Ev.now _
    | succ d ih =>
      intro i hi hin
      obtain ⟨a1, a2, a3⟩ := e1 i (by omega)
      refine Ev.congr (fun k => by rw [ap0, a1, a2, a3, isPoint_eq, Option.bind_some]) ?_
      rw [not_allN_step, apI]
      cases hpt : ptB p ((tps l).getD i (0, 0, 0)).1 ((tps l).getD i (0, 0, 0)).2.1 ((tps l).getD i (0, 0, 0)).2.2 with
      | false => exact Ev.no (by simp) (Ev.now _)
      | true =>
        have hp : primeB p = true := by
          rw [ptB, Bool.and_eq_true] at hpt
          exact (numsB_prime hpt.1).1
        have hin' : ∀ m, m ≤ i → inP p ((tps l).getD m (0, 0, 0)) := fun m hm => by
          by_cases e : m = i
          · subst e; exact ptB_inP hpt
          · exact hin m (by omega)
        refine Ev.yes rfl (Ev.bind (h1 i (by omega) hp hin' i 0 (by omega)) ?_)
        cases h : allN (fun k => allN (fun j => !colB p ((tps l).getD k (0, 0, 0)) ((tps l).getD j (0, 0, 0)) ((tps l).getD i (0, 0, 0))) k 0) i 0 with
        | false => exact Ev.yes rfl (Ev.now _)
        | true =>
          refine Ev.no (by simp) ?_
          have := ih (i + 1) (by omega) fun m hm => hin' m (by omega)
          simpa using this
  unfold impl_areApart.f
  refine Ev.yes hl ?_
  rw [apartB, hlen]
  exact h0 l.length 0 (by omega) (fun m hm => by omega)

end Go.Proofs.Ytmgbpmihbljngaa.PA
namespace Go.Proofs.Ytmgbpmihbljngaa.PA
open Go.RowKit Go.Proofs.YtmgbpmihbljngaaW.PrintWords Go.Proofs.YtmgbpmihbljngaaW.PrintLast Go.Proofs.YtmgbpmihbljngaaW.PrintMore
set_option linter.unusedVariables false
set_option linter.unusedSimpArgs false

theorem Index_at (l : List Int) (v : Int) (hlen : l.length ≤ 1000000) (h : Nat) (hl : h < l.length) (hv : rd l (h : Int) = v) (hn : ∀ j : Nat, j < h → rd l (j : Int) ≠ v) : ∀ (d i : Nat), i + d = h → Ev (fun k => slices_Index_int_int.l0 k l v (l.length : Int) (i : Int)) (h : Int)
  | 0, i, e => by
    obtain rfl : i = h := by omega
    refine Ev.step (f := fun _ => some (i : Int)) (fun k => ?_) (Ev.now _)
    rw [slices_Index_int_int.l0, if_pos (by omega), if_pos (by omega), if_pos (by omega), if_pos hv.symm]
  | d + 1, i, e => by
    refine Ev.step (f := fun k => slices_Index_int_int.l0 k l v (l.length : Int) ((i + 1 : Nat) : Int)) (fun k => ?_) (Index_at l v hlen h hl hv hn d (i + 1) (by omega))
    rw [slices_Index_int_int.l0, if_pos (by omega), if_pos (by omega), if_pos (by omega), if_neg (fun e2 => hn i (by omega) e2.symm), wsm (by omega) (by omega)]; rfl
theorem Index_none (l : List Int) (v : Int) (hlen : l.length ≤ 1000000) (hn : ∀ j : Nat, j < l.length → rd l (j : Int) ≠ v) : ∀ (d i : Nat), i + d = l.length → Ev (fun k => slices_Index_int_int.l0 k l v (l.length : Int) (i : Int)) (-1)
  | 0, i, e => by
    refine Ev.step (f := fun _ => some (-1)) (fun k => ?_) (Ev.now _)
    rw [slices_Index_int_int.l0, if_neg (by omega)]
  | d + 1, i, e => by
    refine Ev.step (f := fun k => slices_Index_int_int.l0 k l v (l.length : Int) ((i + 1 : Nat) : Int)) (fun k => ?_) (Index_none l v hlen hn d (i + 1) (by omega))
    rw [slices_Index_int_int.l0, if_pos (by omega), if_pos (by omega), if_pos (by omega), if_neg (fun e2 => hn i (by omega) e2.symm), wsm (by omega) (by omega)]; rfl
theorem Index_ev (l : List Int) (v : Int) (hlen : l.length ≤ 1000000) {h : Nat} (hl : h < l.length) (hv : rd l (h : Int) = v) (hn : ∀ j : Nat, j < h → rd l (j : Int) ≠ v) : Ev (fun k => slices_Index_int_int.f k l v) (h : Int) := by
  unfold slices_Index_int_int.f
  exact Index_at l v hlen h hl hv hn h 0 (by omega)
theorem first_at (l : List Int) (v : Int) : ∀ n : Nat, n ≤ l.length → (∃ h : Nat, h < n ∧ rd l (h : Int) = v ∧ ∀ j : Nat, j < h → rd l (j : Int) ≠ v) ∨ ∀ j : Nat, j < n → rd l (j : Int) ≠ v
  | 0, _ => .inr fun j hj => absurd hj (by omega)
  | n + 1, hn => by
    rcases first_at l v n (by omega) with ⟨h, h1, h2, h3⟩ | h
    · exact .inl ⟨h, by omega, h2, h3⟩
    · by_cases e : rd l (n : Int) = v
      · exact .inl ⟨n, by omega, e, h⟩
      · refine .inr fun j hj => ?_
        rcases Nat.lt_succ_iff_lt_or_eq.1 hj with h1 | h1
        · exact h j h1
        · rw [h1]; exact e
theorem Contains_ev (l : List Int) (v : Int) (hlen : l.length ≤ 1000000) : Ev (fun k => slices_Contains_int_int.f k l v) (decide (v ∈ l)) := by
  unfold slices_Contains_int_int.f slices_Index_int_int.f
  rcases first_at l v l.length (by omega) with ⟨h, h1, h2, h3⟩ | h
  · have hm : v ∈ l := by rw [← h2, rd_at l h h1]; exact List.getElem_mem _
    refine Ev.bind (Index_at l v hlen h h1 h2 h3 h 0 (by omega)) ?_
    rw [decide_eq_true (show (h : Int) ≥ 0 by omega), decide_eq_true hm]; exact Ev.now _
  · have hm : ¬ v ∈ l := fun hm => by
      obtain ⟨j, hj, e⟩ := List.mem_iff_getElem.1 hm
      exact h j hj (by rw [rd_at l j hj]; exact e)
    refine Ev.bind (Index_none l v hlen h l.length 0 (by omega)) ?_
    rw [decide_eq_false (show ¬ (-1 : Int) ≥ 0 by omega), decide_eq_false hm]; exact Ev.now _

end Go.Proofs.Ytmgbpmihbljngaa.PA
namespace Go.Proofs.Ytmgbpmihbljngaa.PA
open Go.RowKit Go.Proofs.YtmgbpmihbljngaaW.PrintWords Go.Proofs.YtmgbpmihbljngaaW.PrintLast Go.Proofs.YtmgbpmihbljngaaW.PrintMore
set_option linter.unusedVariables false
set_option linter.unusedSimpArgs false

theorem mod_neg {p : Int} (hp : primeB p = true) {x : Int} (h0 : 0 ≤ x) (h1 : x < p) : impl_mod.f (wrap64 (-x)) p = some ((-x) % p) := by
  have hb := prime_bd hp
  rw [modV_f p _ (by omega), tmod_small ⟨by omega, by omega⟩ (by omega) (by omega)]
theorem rd_map_snd (P : List (Nat × List Int)) (i : Nat) (hi : i < P.length) : rd_L4 (P.map Prod.snd) (i : Int) = (P[i]).2 := by
  simp [rd_L4, List.getD_eq_getElem?_getD, hi]
theorem rd_map_fst (P : List (Nat × List Int)) (i : Nat) (hi : i < P.length) : rd (P.map fun x => (x.1 : Int)) (i : Int) = ((P[i]).1 : Int) := by
  simp [rd, List.getD_eq_getElem?_getD, hi]
theorem rref_len {p : Int} {w : Nat} {P : List (Nat × List Int)} (h : Rref p w P) : P.length ≤ w := by
  have h1 := len_le_of_keys (P := P) (Q := (List.range w).map fun c => (c, ([] : List Int))) h.inc (by rw [List.pairwise_map]; exact List.pairwise_lt_range) (fun x hx => ⟨(x.1, []), List.mem_map.2 ⟨x.1, by simpa using h.lt x hx, rfl⟩, rfl⟩)
  simpa using h1
theorem free_heads {P : List (Nat × List Int)} (c : Nat) : decide ((c : Int) ∈ P.map fun x => (x.1 : Int)) = !freeC P c := by
  rw [freeC, Bool.not_not, Bool.eq_iff_iff, decide_eq_true_iff, List.any_eq_true]
  constructor
  · intro h
    obtain ⟨x, hx, e⟩ := List.mem_map.1 h
    exact ⟨x, hx, by have : x.1 = c := by omega
                     simp [this]⟩
  · rintro ⟨x, hx, e⟩
    exact List.mem_map.2 ⟨x, hx, by have : x.1 = c := by simpa using e
                                    omega⟩
/-- the first loop: the heads -/
theorem sol_heads {p : Int} {w : Nat} (hw : w ≤ 1000) {P : List (Nat × List Int)} (h : Rref p w P) {R : List (List Int)} (hend : Ev (fun k => impl_solutions.l1 k p (w : Int) (P.map Prod.snd) (P.map fun x => (x.1 : Int)) [] (w : Int) 0) R) : ∀ (d i : Nat), i + d = P.length →
    Ev (fun k => impl_solutions.l0 k p (w : Int) (P.map Prod.snd) ((P.map fun x => (x.1 : Int)).take i) (P.map Prod.snd) ((P.map Prod.snd).length : Int) (i : Int)) R
  | 0, i, e => by
    refine Ev.step (f := fun k => impl_solutions.l1 k p (w : Int) (P.map Prod.snd) (P.map fun x => (x.1 : Int)) [] (w : Int) 0) (fun k => ?_) hend
    rw [impl_solutions.l0, if_neg (by rw [List.length_map]; omega), List.take_of_length_le (by rw [List.length_map]; omega)]
  | d + 1, i, e => by
    have hi : i < P.length := by omega
    have hle := rref_len h
    have ih := sol_heads hw h hend d (i + 1) (by omega)
    have hm := List.getElem_mem hi
    refine Ev.step (fun k => by rw [impl_solutions.l0, if_pos (by rw [List.length_map]; omega), if_pos (by omega), if_pos (by rw [List.length_map]; omega), rd_map_snd P i hi]) ?_
    have hlen := (h.ok _ hm).1
    refine Ev.bind (Index_ev (P[i]).2 1 (by omega) (h := (P[i]).1) (by rw [hlen]; exact h.lt _ hm) (h.one _ hm) (fun j hj => by
      have := h.low _ hm j hj
      rw [fn] at this; rw [this]; decide)) (Ev.yes (by simp; omega) ?_)
    rw [wsm (by omega) (by omega), show ((P.map fun x => (x.1 : Int)).take i) ++ [((P[i]).1 : Int)] = (P.map fun x => (x.1 : Int)).take (i + 1) by
      rw [List.take_add_one, List.getElem?_map, List.getElem?_eq_getElem hi]; rfl]
    exact ih
/-- the third loop: one list -/
theorem sol_one {p : Int} (hp : primeB p = true) {w : Nat} (hw : w ≤ 1000) {P : List (Nat × List Int)} (h : Rref p w P) {c : Nat} (hc : c < w) {O : List (List Int)} (hO : O.length ≤ 1000) {R : List (List Int)} : ∀ (d i : Nat) (v V : List Int), i + d = P.length → v.length = w → nullFold p c (P.drop i) v = V →
    Ev (fun k => impl_solutions.l1 k p (w : Int) (P.map Prod.snd) (P.map fun x => (x.1 : Int)) (O ++ [V]) (w : Int) ((c + 1 : Nat) : Int)) R →
    Ev (fun k => impl_solutions.l2 k p (w : Int) (P.map Prod.snd) (P.map fun x => (x.1 : Int)) O (c : Int) v (w : Int) (c : Int) (P.map Prod.snd) ((P.map Prod.snd).length : Int) (i : Int)) R
  | 0, i, v, V, e, hv, hV, hend => by
    rw [List.drop_eq_nil_of_le (by omega), nullFold] at hV
    subst hV
    refine Ev.step (fun k => by rw [impl_solutions.l2, if_neg (by rw [List.length_map]; omega), if_pos (by omega), wsm (by omega) (by omega)]) ?_
    simpa using hend
  | d + 1, i, v, V, e, hv, hV, hend => by
    have hi : i < P.length := by omega
    have hle := rref_len h
    have hm := List.getElem_mem hi
    have hlen := (h.ok _ hm).1
    have hlt := h.lt _ hm
    have hr := fn_range (h.ok _ hm) c hc
    rw [fn] at hr
    rw [List.drop_eq_getElem_cons hi, nullFold] at hV
    refine Ev.step (fun k => by rw [impl_solutions.l2, if_pos (by rw [List.length_map]; omega), if_pos (by omega), if_pos (by rw [List.length_map]; omega), if_pos (by rw [List.length_map]; omega), if_pos (by omega), rd_map_snd P i hi, if_pos (by omega), rd_map_fst P i hi, mod_neg hp hr.1 hr.2]) ?_
    refine Ev.bind (a := (-(rd (P[i]).2 (c : Int))) % p) (Ev.now _) (Ev.yes (by omega) (Ev.yes (by omega) ?_))
    have ih := sol_one hp hw h hc hO d (i + 1) (v.set (P[i]).1 ((-(rd (P[i]).2 (c : Int))) % p)) V (by omega) (by rw [List.length_set]; exact hv) hV hend
    rw [wsm (by omega) (by omega)]
    simpa using ih
/-- the second loop: a list for each free column -/
theorem sol_cols {p : Int} (hp : primeB p = true) {w : Nat} (hw : w ≤ 1000) {P : List (Nat × List Int)} (h : Rref p w P) : ∀ (d c : Nat) (O : List (List Int)), c + d = w → O = (((List.range c).filter (freeC P)).map (nullVec p w P)) →
    Ev (fun k => impl_solutions.l1 k p (w : Int) (P.map Prod.snd) (P.map fun x => (x.1 : Int)) O (w : Int) (c : Int)) (redP p w 0 (nullRows p w P) [])
  | 0, c, O, e, hO => by
    obtain rfl : c = w := by omega
    have hb := prime_bd hp
    refine Ev.step (fun k => by rw [impl_solutions.l1, if_neg (by omega)]) ?_
    have hlen : O.length < 1000000 := by
      rw [hO, List.length_map]
      have := List.length_filter_le (freeC P) (List.range c)
      simp at this; omega
    have hok := nullRows_ok (p := p) (by omega) h
    subst hO
    exact Ev.bind (reduced_ok hp (w := c) _ (by omega) hlen hok) (Ev.now _)
  | d + 1, c, O, e, hO => by
    have hle := rref_len h
    have hOl : O.length ≤ 1000 := by
      rw [hO, List.length_map]
      have := List.length_filter_le (freeC P) (List.range c)
      simp at this; omega
    have hsucc : (List.range (c + 1)).filter (freeC P) = (List.range c).filter (freeC P) ++ (if freeC P c = true then [c] else []) := by
      rw [List.range_succ, List.filter_append]
      congr 1
      cases hf : freeC P c <;> simp [hf]
    refine Ev.step (fun k => by rw [impl_solutions.l1, if_pos (by omega)]) ?_
    refine Ev.bind (Contains_ev _ (c : Int) (by rw [List.length_map]; omega)) ?_
    rw [free_heads]
    cases hf : freeC P c with
    | false =>
      refine Ev.yes rfl ?_
      rw [wsm (by omega) (by omega)]
      exact sol_cols hp hw h d (c + 1) O (by omega) (by rw [hsucc, hf, hO]; simp)
    | true =>
      refine Ev.no (by simp) (Ev.yes (by omega) (Ev.yes (by omega) (Ev.bind (a := List.replicate w 0) (by simpa using Ev.now (List.replicate w (0 : Int))) (Ev.yes (by omega) (Ev.yes (by simp; omega) ?_)))))
      have hend := sol_cols hp hw h d (c + 1) (O ++ [nullVec p w P c]) (by omega) (by rw [hsucc, hf, hO]; simp)
      have := sol_one hp hw h (c := c) (by omega) hOl (R := redP p w 0 (nullRows p w P) []) P.length 0 ((List.replicate w 0).set c 1) (nullVec p w P c) (by omega) (by simp) (by rw [List.drop_zero]; rfl) hend
      simpa using this
/-- solutions, on rows of one length -/
theorem solutions_any {p : Int} (hp : primeB p = true) {w : Nat} (hw : w ≤ 1000) (L : List (List Int)) (hl : L.length < 1000000) (hL : ∀ r ∈ L, r.length = w) : Ev (fun k => impl_solutions.f k p L (w : Int)) (nullP p w (L.map fun r => r.map (modV p))) := by
  have hb := prime_bd hp
  have hok : okR p w (L.map fun r => r.map (modV p)) := fun x hx => by
    obtain ⟨r, hr, rfl⟩ := List.mem_map.1 hx
    refine ⟨by rw [List.length_map, hL r hr], fun y hy => ?_⟩
    obtain ⟨z, _, rfl⟩ := List.mem_map.1 hy
    have h2 := tmod_bd (p := p) (by omega) z
    rw [modV, wsm (by omega) (by omega), Int.tmod_eq_emod_of_nonneg (by omega)]
    exact ⟨Int.emod_nonneg _ (by omega), Int.emod_lt_of_pos _ (by omega)⟩
  obtain ⟨e1, _, hP, _, _⟩ := pairsP_spec hp hok
  unfold impl_solutions.f
  refine Ev.bind (reduced_ev hp L (by omega) hl hL) ?_
  rw [e1]
  have h := sol_heads (p := p) hw hP (sol_cols hp hw hP w 0 [] (by omega) (by simp)) (pairsP p w (L.map fun r => r.map (modV p))).length 0 (by omega)
  simpa [nullP] using h
theorem solutions_ev {p : Int} (hp : primeB p = true) {w : Nat} (hw : w ≤ 1000) (L : List (List Int)) (hl : L.length < 1000000) (hL : okR p w L) : Ev (fun k => impl_solutions.f k p L (w : Int)) (nullP p w L) := by
  have h := solutions_any hp hw L hl (fun r hr => (hL r hr).1)
  have e : (L.map fun r => r.map (modV p)) = L := by
    rw [List.map_congr_left (g := id)]
    · simp
    · intro r hr
      rw [List.map_congr_left (g := id)]
      · simp
      · intro x hx; have := (hL r hr).2 x hx; exact modV_self hp this.1 this.2
  rwa [e] at h

end Go.Proofs.Ytmgbpmihbljngaa.PA
namespace Go.Proofs.Ytmgbpmihbljngaa.PA
open Go.RowKit Go.Proofs.YtmgbpmihbljngaaW.PrintWords Go.Proofs.YtmgbpmihbljngaaW.PrintLast Go.Proofs.YtmgbpmihbljngaaW.PrintMore
set_option linter.unusedVariables false
set_option linter.unusedSimpArgs false

/-- the squares of a point, as the program tells them -/
def sqI (t : Int × Int × Int) : List Int := [t.1 * t.1, t.1 * t.2.1, t.1 * t.2.2, t.2.1 * t.2.1, t.2.1 * t.2.2, t.2.2 * t.2.2]
theorem modV_small {p x : Int} (hp : 7 ≤ p ∧ p ≤ 31) (h0 : -1000000000 ≤ x) (h1 : x ≤ 1000000000) : modV p x = x % p := by
  have := tmod_small hp h0 h1
  rwa [wsm (by omega) (by omega)] at this
theorem sqI_mod {p : Int} (hp : 7 ≤ p ∧ p ≤ 31) {t : Int × Int × Int} (ht : inP p t) : (sqI t).map (modV p) = sqR p t := by
  obtain ⟨a0, a1, a2⟩ := ht
  have m1 := mul_bd hp a0 a0
  have m2 := mul_bd hp a0 a1
  have m3 := mul_bd hp a0 a2
  have m4 := mul_bd hp a1 a1
  have m5 := mul_bd hp a1 a2
  have m6 := mul_bd hp a2 a2
  simp only [sqI, sqR, List.map_cons, List.map_nil]
  rw [modV_small hp (by omega) (by omega), modV_small hp (by omega) (by omega), modV_small hp (by omega) (by omega), modV_small hp (by omega) (by omega), modV_small hp (by omega) (by omega), modV_small hp (by omega) (by omega)]
theorem squares_ev {p : Int} (hp : 7 ≤ p ∧ p ≤ 31) (l : List S43) (hl : l.length ≤ 1000) (hin : ∀ j, j < l.length → inP p ((tps l).getD j (0, 0, 0))) : Ev (fun k => impl_squares.f k l) ((tps l).map sqI) := by
  have hlen : (tps l).length = l.length := by simp [tps]
  have h0 : ∀ (d i : Nat) (acc : List (List Int)), i + d = l.length → acc = ((tps l).take i).map sqI → Ev (fun q => impl_squares.l0 q acc l (l.length : Int) (i : Int)) ((tps l).map sqI) := by
    intro d
    induction d with
    | zero =>
      intro i acc hi ha
      rw [List.take_of_length_le (by omega)] at ha
      subst ha
      exact Ev.step (f := fun _ => some ((tps l).map sqI)) (fun q => by rw [impl_squares.l0, if_neg (by omega)]) (Ev.now _)
    | succ d ih =>
      intro i acc hi ha
      have hil : i < l.length := by omega
      have hal : acc.length ≤ 1000 := by rw [ha, List.length_map, List.length_take]; omega
      have e := tpl_at l i hil
      obtain ⟨a0, a1, a2⟩ := hin i hil
      have f0 : (rd_T43 l (i : Int)).f0.f0 = ((tps l).getD i (0, 0, 0)).1 := by rw [← e]; rfl
      have f1 : (rd_T43 l (i : Int)).f0.f1 = ((tps l).getD i (0, 0, 0)).2.1 := by rw [← e]; rfl
      have f2 : (rd_T43 l (i : Int)).f0.f2 = ((tps l).getD i (0, 0, 0)).2.2 := by rw [← e]; rfl
      have m1 := mul_bd hp a0 a0
      have m2 := mul_bd hp a0 a1
      have m3 := mul_bd hp a0 a2
      have m4 := mul_bd hp a1 a1
      have m5 := mul_bd hp a1 a2
      have m6 := mul_bd hp a2 a2
      refine Ev.step (fun q => by rw [impl_squares.l0, if_pos (by omega), if_pos (by omega), if_pos (by omega), if_pos (by omega), f0, f1, f2, wsm (i := ((tps l).getD i (0, 0, 0)).1 * ((tps l).getD i (0, 0, 0)).1) (by omega) (by omega), wsm (i := ((tps l).getD i (0, 0, 0)).1 * ((tps l).getD i (0, 0, 0)).2.1) (by omega) (by omega), wsm (i := ((tps l).getD i (0, 0, 0)).1 * ((tps l).getD i (0, 0, 0)).2.2) (by omega) (by omega), wsm (i := ((tps l).getD i (0, 0, 0)).2.1 * ((tps l).getD i (0, 0, 0)).2.1) (by omega) (by omega), wsm (i := ((tps l).getD i (0, 0, 0)).2.1 * ((tps l).getD i (0, 0, 0)).2.2) (by omega) (by omega), wsm (i := ((tps l).getD i (0, 0, 0)).2.2 * ((tps l).getD i (0, 0, 0)).2.2) (by omega) (by omega), wsm (by omega) (by omega)]) ?_
      refine ih (i + 1) _ (by omega) ?_
      rw [ha, List.take_add_one, List.map_append, List.getD_eq_getElem?_getD, List.getElem?_eq_getElem (by omega)]
      rfl
  unfold impl_squares.f
  exact h0 l.length 0 [] (by omega) (by simp)
theorem areGeneral_ev (p : Int) (l : List S43) : Ev (fun k => impl_areGeneral.f k p l) (genB p (tps l)) := by
  have hlen : (tps l).length = l.length := by simp [tps]
  unfold impl_areGeneral.f
  by_cases h6 : l.length = 6
  · refine Ev.yes (by omega) ?_
    rw [genB, hlen, decide_eq_true h6, Bool.true_and]
    refine Ev.bind (areApart_ev l (by omega)) ?_
    cases ha : apartB p (tps l) with
    | false => exact Ev.no (by simp) (Ev.now _)
    | true =>
      have hp : primeB p = true := by
        cases hp : primeB p with
        | true => rfl
        | false => rw [apart_not hp _ (by omega)] at ha; cases ha
      have hb := prime_bd hp
      have hin : ∀ j, j < l.length → inP p ((tps l).getD j (0, 0, 0)) := fun j hj => ptB_inP ((apart_facts ha).1 j (by omega))
      have hs := solutions_any hp (w := 6) (by omega) ((tps l).map sqI) (by rw [List.length_map]; omega) (fun r hr => by obtain ⟨t, _, rfl⟩ := List.mem_map.1 hr; rfl)
      have e : (((tps l).map sqI).map fun r => r.map (modV p)) = (tps l).map (sqR p) := by
        rw [List.map_map]
        refine List.map_congr_left fun t ht => ?_
        obtain ⟨j, hj, rfl⟩ := List.getElem_of_mem ht
        have := hin j (by omega)
        rw [List.getD_eq_getElem?_getD, List.getElem?_eq_getElem hj] at this
        exact sqI_mod ⟨by omega, by omega⟩ this
      rw [e] at hs
      refine Ev.yes rfl (Ev.bind (squares_ev (p := p) ⟨by omega, by omega⟩ l (by omega) hin) (Ev.bind hs ?_))
      have e2 : (((nullP p 6 ((tps l).map (sqR p))).length : Int) == 0) = (true && (nullP p 6 ((tps l).map (sqR p))).isEmpty) := by
        cases nullP p 6 ((tps l).map (sqR p)) with
        | nil => rfl
        | cons a b => simp; omega
      rw [e2]
      exact Ev.now _
  · refine Ev.no (by omega) ?_
    rw [genB, hlen, decide_eq_false h6]
    exact Ev.now _

end Go.Proofs.Ytmgbpmihbljngaa.PA
namespace Go.Proofs.Ytmgbpmihbljngaa.PA
open Go.RowKit Go.Proofs.YtmgbpmihbljngaaW.PrintWords Go.Proofs.YtmgbpmihbljngaaW.PrintLast Go.Proofs.YtmgbpmihbljngaaW.PrintMore
set_option linter.unusedVariables false
set_option linter.unusedSimpArgs false

theorem exps_ev : Ev (fun k => impl_exponents.f k) powL := Ev.of impl_exponents.mono (k := 40) (by kernel_rfl)
theorem pow_bd {p x : Int} (hp : p ≤ 31) (hx : 0 ≤ x ∧ x < p) : ∀ n : Nat, n ≤ 3 → 0 ≤ x ^ n ∧ x ^ n ≤ 27000 := by
  intro n hn
  have h2 : 0 ≤ x * x ∧ x * x ≤ 900 := mul30 hp hx.1 hx.2 hx.1 hx.2
  have h3 : 0 ≤ x * x * x ∧ x * x * x ≤ 900 * 30 := ⟨Int.mul_nonneg h2.1 hx.1, Int.mul_le_mul h2.2 (by omega) hx.1 (by omega)⟩
  rcases (show n = 0 ∨ n = 1 ∨ n = 2 ∨ n = 3 by omega) with rfl | rfl | rfl | rfl
  · rw [Int.pow_zero]; omega
  · rw [Int.pow_succ, Int.pow_zero, Int.one_mul]; omega
  · rw [Int.pow_succ, Int.pow_succ, Int.pow_zero, Int.one_mul]; omega
  · rw [Int.pow_succ, Int.pow_succ, Int.pow_succ, Int.pow_zero, Int.one_mul]; omega
theorem power_ev {p x : Int} (hp : p ≤ 31) (hx : 0 ≤ x ∧ x < p) (n : Nat) (hn : n ≤ 3) : Ev (fun k => impl_power.f k x (n : Int)) (x ^ n) := by
  have h0 : ∀ (d i : Nat), i + d = n → Ev (fun k => impl_power.l0 k x (x ^ i) (n : Int) (i : Int)) (x ^ n) := by
    intro d
    induction d with
    | zero =>
      intro i hi
      obtain rfl : i = n := by omega
      exact Ev.step (f := fun _ => some (x ^ i)) (fun q => by rw [impl_power.l0, if_neg (by omega)]) (Ev.now _)
    | succ d ih =>
      intro i hi
      have := pow_bd hp hx (i + 1) (by omega)
      rw [Int.pow_succ] at this
      refine Ev.step (fun q => by rw [impl_power.l0, if_pos (by omega), wsm (i := x ^ i * x) (by omega) (by omega), wsm (by omega) (by omega)]) ?_
      have h := ih (i + 1) (by omega)
      rwa [Int.pow_succ] at h
  unfold impl_power.f
  have := h0 n 0 (by omega)
  rwa [Int.pow_zero] at this
/-- a monomial of a point, as the program tells it -/
def monI (t : Int × Int × Int) (i : Nat) : Int := t.1 ^ (powN.getD i (0, 0, 0)).1 * t.2.1 ^ (powN.getD i (0, 0, 0)).2.1 * t.2.2 ^ (powN.getD i (0, 0, 0)).2.2
def cubI (t : Int × Int × Int) : List Int := (List.range 10).map (monI t)
theorem mul_big {x y z : Int} (hx : 0 ≤ x ∧ x ≤ 27000) (hy : 0 ≤ y ∧ y ≤ 27000) (hz : 0 ≤ z ∧ z ≤ 27000) : (0 ≤ x * y ∧ x * y ≤ 729000000) ∧ 0 ≤ x * y * z ∧ x * y * z ≤ 19683000000000 := by
  have h1 : 0 ≤ x * y ∧ x * y ≤ 27000 * 27000 := ⟨Int.mul_nonneg hx.1 hy.1, Int.mul_le_mul hx.2 hy.2 hy.1 (by omega)⟩
  have h2 : 0 ≤ x * y * z ∧ x * y * z ≤ 729000000 * 27000 := ⟨Int.mul_nonneg h1.1 hz.1, Int.mul_le_mul (by omega) hz.2 hz.1 (by omega)⟩
  omega
theorem cubes_ev {p : Int} (hp : p ≤ 31) (t : Int × Int × Int) (ht : inP p t) : Ev (fun k => impl_cubes.f k t.1 t.2.1 t.2.2) (cubI t) := by
  obtain ⟨a0, a1, a2⟩ := ht
  have h0 : ∀ (d i : Nat) (acc : List Int), i + d = 10 → acc = (List.range i).map (monI t) → Ev (fun q => impl_cubes.l0 q acc powL (powL.length : Int) (i : Int) t.1 t.2.1 t.2.2) (cubI t) := by
    intro d
    induction d with
    | zero =>
      intro i acc hi ha
      obtain rfl : i = 10 := by omega
      subst ha
      exact Ev.step (f := fun _ => some (cubI t)) (fun q => by rw [impl_cubes.l0, if_neg (by simp [powL])]; rfl) (Ev.now _)
    | succ d ih =>
      intro i acc hi ha
      obtain ⟨e0, e1, e2, l0, l1, l2⟩ := powL_at i (by omega)
      have hal : acc.length ≤ 1000 := by rw [ha, List.length_map, List.length_range]; omega
      have hpl : (powL.length : Int) = 10 := rfl
      have b0 := pow_bd hp a0 _ l0
      have b1 := pow_bd hp a1 _ l1
      have b2 := pow_bd hp a2 _ l2
      obtain ⟨c1, c2⟩ := mul_big b0 b1 b2
      refine Ev.step (fun q => by rw [impl_cubes.l0, if_pos (by omega), if_pos (by omega), if_pos (by omega), e0, e1, e2]) ?_
      refine (Ev.bind (power_ev hp a0 _ l0) (Ev.bind (power_ev hp a1 _ l1) (Ev.bind (power_ev hp a2 _ l2) ?_)))
      refine Ev.yes (show acc.length < 17592186044416 by omega) ?_
      rw [wsm (i := t.1 ^ (powN.getD i (0, 0, 0)).1 * t.2.1 ^ (powN.getD i (0, 0, 0)).2.1) (by omega) (by omega), wsm (i := t.1 ^ (powN.getD i (0, 0, 0)).1 * t.2.1 ^ (powN.getD i (0, 0, 0)).2.1 * t.2.2 ^ (powN.getD i (0, 0, 0)).2.2) (by omega) (by omega), wsm (by omega) (by omega)]
      refine ih (i + 1) _ (by omega) ?_
      rw [ha, List.range_succ, List.map_append]
      rfl
  unfold impl_cubes.f
  exact Ev.bind exps_ev (h0 10 0 [] rfl rfl)
theorem mon_bd {p : Int} (hp : p ≤ 31) {t : Int × Int × Int} (ht : inP p t) (i : Nat) (hi : i < 10) : 0 ≤ monI t i ∧ monI t i ≤ 19683000000000 := by
  obtain ⟨a0, a1, a2⟩ := ht
  obtain ⟨_, _, _, l0, l1, l2⟩ := powL_at i hi
  exact (mul_big (pow_bd hp a0 _ l0) (pow_bd hp a1 _ l1) (pow_bd hp a2 _ l2)).2
theorem modV_nn {p x : Int} (hp : 7 ≤ p ∧ p ≤ 31) (h0 : 0 ≤ x) : modV p x = x % p := by
  have h2 := tmod_bd (p := p) (by omega) x
  rw [modV, wsm (by omega) (by omega), Int.tmod_eq_emod_of_nonneg (a := x) (by omega)]
  have := Int.emod_nonneg x (show p ≠ 0 by omega)
  have := Int.emod_lt_of_pos x (show (0 : Int) < p by omega)
  rw [Int.tmod_eq_emod_of_nonneg (by omega), Int.add_emod_right, Int.emod_emod]
theorem cubI_mod {p : Int} (hp : 7 ≤ p ∧ p ≤ 31) {t : Int × Int × Int} (ht : inP p t) : (cubI t).map (modV p) = cubR p t := by
  rw [cubI, List.map_map, ← monR_all]
  refine List.map_congr_left fun i hi => ?_
  exact modV_nn hp (mon_bd hp.2 ht i (List.mem_range.1 hi)).1
theorem baseOf_ev {p : Int} (hp : primeB p = true) (l : List S43) (hl : l.length ≤ 1000) (hin : ∀ j, j < l.length → inP p ((tps l).getD j (0, 0, 0))) : Ev (fun k => impl_baseOf.f k p l) (basP p (tps l)) := by
  have hb := prime_bd hp
  have hlen : (tps l).length = l.length := by simp [tps]
  have h0 : ∀ (d i : Nat) (acc : List (List Int)), i + d = l.length → acc = ((tps l).take i).map cubI → Ev (fun q => impl_baseOf.l0 q p acc l (l.length : Int) (i : Int)) (basP p (tps l)) := by
    intro d
    induction d with
    | zero =>
      intro i acc hi ha
      rw [List.take_of_length_le (by omega)] at ha
      subst ha
      have hs := solutions_any hp (w := 10) (by omega) ((tps l).map cubI) (by rw [List.length_map]; omega) (fun r hr => by obtain ⟨t, _, rfl⟩ := List.mem_map.1 hr; simp [cubI])
      have e : (((tps l).map cubI).map fun r => r.map (modV p)) = (tps l).map (cubR p) := by
        rw [List.map_map]
        refine List.map_congr_left fun t ht => ?_
        obtain ⟨j, hj, rfl⟩ := List.getElem_of_mem ht
        have := hin j (by omega)
        rw [List.getD_eq_getElem?_getD, List.getElem?_eq_getElem hj] at this
        exact cubI_mod ⟨by omega, by omega⟩ this
      rw [e] at hs
      refine Ev.step (fun q => by rw [impl_baseOf.l0, if_neg (by omega)]) ?_
      exact Ev.bind hs (Ev.now _)
    | succ d ih =>
      intro i acc hi ha
      have hil : i < l.length := by omega
      have hal : acc.length ≤ 1000 := by rw [ha, List.length_map, List.length_take]; omega
      have e := tpl_at l i hil
      have hc := cubes_ev (p := p) (by omega) _ (hin i hil)
      rw [← e] at hc
      refine Ev.step (fun q => by rw [impl_baseOf.l0, if_pos (by omega), if_pos (by omega), if_pos (by omega)]) ?_
      refine Ev.bind hc (Ev.yes (show acc.length < 5864062014805 by omega) ?_)
      rw [wsm (by omega) (by omega)]
      refine ih (i + 1) _ (by omega) ?_
      rw [ha, List.take_add_one, List.map_append, e, List.getD_eq_getElem?_getD, List.getElem?_eq_getElem (by omega)]
      rfl
  unfold impl_baseOf.f
  exact h0 l.length 0 [] (by omega) (by simp)

end Go.Proofs.Ytmgbpmihbljngaa.PA
namespace Go.Proofs.Ytmgbpmihbljngaa.PA
open Go.RowKit Go.Proofs.YtmgbpmihbljngaaW.PrintWords Go.Proofs.YtmgbpmihbljngaaW.PrintLast Go.Proofs.YtmgbpmihbljngaaW.PrintMore
set_option linter.unusedVariables false
set_option linter.unusedSimpArgs false

theorem null_same {p : Int} (hp : primeB p = true) {w : Nat} {L M : List (List Int)} (hL : okR p w L) (hM : okR p w M) (h1 : ∀ r ∈ L, r ∈ M) (h2 : ∀ r ∈ M, r ∈ L ∨ ∀ j, j < w → fn r j = 0) : nullP p w L = nullP p w M := by
  have hb := prime_bd hp
  obtain ⟨N, e1, hN, a1, b1⟩ := nullP_rref hp hL
  obtain ⟨K, e2, hK, a2, b2⟩ := nullP_rref hp hM
  have hz : ∀ (r : List Int) (v : Nat → Int), (∀ j, j < w → fn r j = 0) → p ∣ dt w (fn r) v := fun r v hr => by
    refine sum_dvd _ fun x hx => ?_
    obtain ⟨j, hj, rfl⟩ := List.mem_map.1 hx
    rw [hr j (List.mem_range.1 hj), Int.zero_mul]
    exact ⟨0, by simp⟩
  rw [e1, e2, Rref.unique (by omega) hN hK (fun x hx => b2 _ fun r hr => ?_) (fun x hx => b1 _ fun r hr => a2 x hx r (h1 r hr))]
  rcases h2 r hr with h | h
  · exact a1 x hx r h
  · exact hz r _ h

end Go.Proofs.Ytmgbpmihbljngaa.PA
namespace Go.Proofs.Ytmgbpmihbljngaa.PA
open Go.RowKit Go.Proofs.YtmgbpmihbljngaaW.PrintWords Go.Proofs.YtmgbpmihbljngaaW.PrintLast Go.Proofs.YtmgbpmihbljngaaW.PrintMore
set_option linter.unusedVariables false
set_option linter.unusedSimpArgs false

theorem fi_hz (n : Nat) (f : Nat → Int) : ∀ m, fi n (hz m f) = sm m fun i => fi n (f i)
  | 0 => fi_zero n
  | m + 1 => by rw [hz, sm, fi_add, fi_hz n f m]
theorem sm_blocks {n : Nat} (h : Nat → Fq n) (b : Nat) : ∀ m, sm (b * m) h = sm m fun a => sm b fun c => h (b * a + c)
  | 0 => rfl
  | m + 1 => by rw [Nat.mul_succ, sm_split, sm_blocks h b m, sm]
/-- the numbers of a polynomial, by two powers and by one -/
def lkP (p : Int) (d : Nat) (F : Nat → Nat → Int) (f : Nat → Fq (nn p)) : Prop := (∀ i j, i + j ≤ 9 → fi (nn p) (F i j) = f (10 * i + j)) ∧ ∀ r, d < r / 10 + r % 10 → f r = 0
theorem lk_mul {p : Int} (hp : primeB p = true) {d1 d2 : Nat} {F G : Nat → Nat → Int} {f g : Nat → Fq (nn p)} (hF : lkP p d1 F f) (hG : lkP p d2 G g) (hd : d1 + d2 ≤ 9) : lkP p (d1 + d2) (mulI p F G) (mulP f g) := by
  constructor
  · intro i j hij
    rw [mulI, fp_mod hp, fi_hz, mulP]
    have e1 : sm (10 * i + j + 1) (fun k => f k * g (10 * i + j - k)) = sm (10 * (i + 1)) fun k => if k ≤ 10 * i + j then f k * g (10 * i + j - k) else 0 := by
      have e0 := sm_split (fun k => if k ≤ 10 * i + j then f k * g (10 * i + j - k) else 0) (10 * i + j + 1) (9 - j)
      rw [show 10 * i + j + 1 + (9 - j) = 10 * (i + 1) by omega] at e0
      rw [e0, sm_zero (f := fun k => if 10 * i + j + 1 + k ≤ 10 * i + j then f (10 * i + j + 1 + k) * g (10 * i + j - (10 * i + j + 1 + k)) else 0) _ fun k _ => if_neg (by omega)]
      rw [sm_congr (f := fun k => if k ≤ 10 * i + j then f k * g (10 * i + j - k) else 0) (g := fun k => f k * g (10 * i + j - k)) _ fun k hk => if_pos (by omega)]
      grind
    rw [e1, sm_blocks]
    refine sm_congr _ fun a ha => ?_
    have e0 := sm_split (fun c => if 10 * a + c ≤ 10 * i + j then f (10 * a + c) * g (10 * i + j - (10 * a + c)) else 0) (j + 1) (9 - j)
    rw [show j + 1 + (9 - j) = 10 by omega] at e0
    rw [fi_hz, e0]
    have e2 : (sm (9 - j) fun c => if 10 * a + (j + 1 + c) ≤ 10 * i + j then f (10 * a + (j + 1 + c)) * g (10 * i + j - (10 * a + (j + 1 + c))) else 0) = 0 := sm_zero _ fun c hc => by
      split
      · next hle =>
        by_cases h1 : d1 < (10 * a + (j + 1 + c)) / 10 + (10 * a + (j + 1 + c)) % 10
        · rw [hF.2 _ h1]; grind
        · rw [hG.2 (10 * i + j - (10 * a + (j + 1 + c))) (by omega)]; grind
      · rfl
    rw [e2]
    have e3 : (sm (j + 1) fun c => fi (nn p) (F a c * G (i - a) (j - c))) = sm (j + 1) fun c => if 10 * a + c ≤ 10 * i + j then f (10 * a + c) * g (10 * i + j - (10 * a + c)) else 0 := sm_congr _ fun c hc => by
      rw [if_pos (by omega), fi_mul, hF.1 a c (by omega), hG.1 (i - a) (j - c) (by omega), show 10 * i + j - (10 * a + c) = 10 * (i - a) + (j - c) by omega]
    rw [e3]
    grind
  · intro r hr
    refine sm_zero _ fun k hk => ?_
    by_cases h1 : d1 < k / 10 + k % 10
    · rw [hF.2 k h1]; grind
    · rw [hG.2 (r - k) (by omega)]; grind
theorem sprd_far {n : Nat} (v : Nat → Fq n) (r : Nat) (h : 3 < r / 10 + r % 10) : sprd v r = 0 := by
  unfold sprd
  split <;> first | rfl | omega
theorem sprd_at {n : Nat} (v : Nat → Fq n) : ∀ i j, i + j ≤ 3 → sprd v (10 * i + j) = v (exPos i j) := by
  intro i j h
  rcases (show i = 0 ∨ i = 1 ∨ i = 2 ∨ i = 3 by omega) with rfl | rfl | rfl | rfl <;> rcases (show j = 0 ∨ j = 1 ∨ j = 2 ∨ j = 3 by omega) with rfl | rfl | rfl | rfl <;> first | omega | rfl
theorem exPos_lt (i j : Nat) (h : i + j ≤ 3) : exPos i j < 10 := by
  rcases (show i = 0 ∨ i = 1 ∨ i = 2 ∨ i = 3 by omega) with rfl | rfl | rfl | rfl <;> rcases (show j = 0 ∨ j = 1 ∨ j = 2 ∨ j = 3 by omega) with rfl | rfl | rfl | rfl <;> first | omega | (simp [exPos])
theorem lk_cub (p : Int) (a : List Int) : lkP p 3 (cubN a 10) (sprd fun j => fi (nn p) (fn a j)) := by
  constructor
  · intro i j _
    unfold cubN
    by_cases h : i + j ≤ 3
    · rw [if_pos ⟨h, exPos_lt i j h⟩, sprd_at _ i j h]; rfl
    · rw [if_neg (by omega), fi_zero, sprd_far _ _ (by omega)]
  · exact fun r hr => sprd_far _ r hr
theorem lk_prod {p : Int} (hp : primeB p = true) (Q : List (Int × Int × Int)) (c : Nat) : lkP p 9 (prodB p (basP p Q) c) (proT (basS p Q) c) :=
  lk_mul hp (lk_mul hp (lk_cub p _) (lk_cub p _) (by omega)) (lk_cub p _) (by omega)
theorem rowB_lst {p : Int} (hp : primeB p = true) (Q : List (Int × Int × Int)) (i j : Nat) (hij : i + j ≤ 9) : rowB p (basP p Q) i j = lstF (nn p) 20 fun c => proT (basS p Q) c (10 * i + j) := by
  have hb := prime_bd hp
  refine lst_eq hp ⟨rowB_len _ _ _ _, fun x hx => ?_⟩ _ fun r hr => ?_
  · obtain ⟨c, _, rfl⟩ := List.mem_map.1 hx
    exact ⟨Int.emod_nonneg _ (by omega), Int.emod_lt_of_pos _ (by omega)⟩
  · rw [← (lk_prod hp Q r).1 i j hij]
    congr 1
    simp [fn, rd, rowB, List.getD_eq_getElem?_getD, hr]
theorem rowsX_mem (p : Int) (l : List (List Int)) (r : List Int) : ∀ x, x ≤ 10 → (r ∈ rowsX p l x ↔ ∃ i j, i < x ∧ j < 10 - i ∧ r = rowB p l i j)
  | 0, _ => by simp [rowsX]
  | x + 1, hx => by
    rw [rowsX, List.mem_append, rowsX_mem p l r x (by omega), List.mem_map]
    constructor
    · rintro (⟨i, j, h1, h2, h3⟩ | ⟨j, hj, rfl⟩)
      · exact ⟨i, j, by omega, h2, h3⟩
      · exact ⟨x, j, by omega, List.mem_range.1 hj, rfl⟩
    · rintro ⟨i, j, h1, h2, rfl⟩
      by_cases e : i = x
      · subst e; exact .inr ⟨j, List.mem_range.2 h2, rfl⟩
      · exact .inl ⟨i, j, by omega, h2, rfl⟩
theorem rowsX_ok {p : Int} (hp : primeB p = true) (Q : List (Int × Int × Int)) : okR p 20 (rowsX p (basP p Q) 10) := fun r hr => by
  obtain ⟨i, j, h1, h2, rfl⟩ := (rowsX_mem p _ r 10 (by omega)).1 hr
  rw [rowB_lst hp Q i j (by omega)]
  exact lst_ok hp 20 _
/-- the program's rows and the reference's have the same solutions -/
theorem rowsX_null {p : Int} (hp : primeB p = true) (Q : List (Int × Int × Int)) : nullP p 20 (rowsX p (basP p Q) 10) = nullP p 20 (surT p Q) := by
  refine null_same hp (rowsX_ok hp Q) (surT_ok hp Q) (fun r hr => ?_) fun r hr => ?_
  · obtain ⟨i, j, h1, h2, rfl⟩ := (rowsX_mem p _ r 10 (by omega)).1 hr
    rw [rowB_lst hp Q i j (by omega)]
    exact List.mem_map.2 ⟨10 * i + j, List.mem_range.2 (by omega), rfl⟩
  · obtain ⟨q, hq, rfl⟩ := List.mem_map.1 hr
    have hq := List.mem_range.1 hq
    by_cases h : q / 10 + q % 10 ≤ 9
    · refine .inl ((rowsX_mem p _ _ 10 (by omega)).2 ⟨q / 10, q % 10, by omega, by omega, ?_⟩)
      rw [rowB_lst hp Q _ _ h, show 10 * (q / 10) + q % 10 = q by omega]
    · refine .inr fun j hj => ?_
      rw [fn_lst _ j hj, (lk_prod hp Q j).2 q (by omega)]
      rfl

end Go.Proofs.Ytmgbpmihbljngaa.PA
namespace Go.Proofs.Ytmgbpmihbljngaa.PA
open Go.RowKit Go.Proofs.YtmgbpmihbljngaaW.PrintWords Go.Proofs.YtmgbpmihbljngaaW.PrintLast Go.Proofs.YtmgbpmihbljngaaW.PrintMore
set_option linter.unusedVariables false
set_option linter.unusedSimpArgs false

theorem trs_ev : Ev (fun k => impl_triples.f k) trL := Ev.of impl_triples.mono (k := 60) (by kernel_rfl)
theorem surfaceOf_ev {p : Int} {Q : List (Int × Int × Int)} (hg : genB p Q = true) : Ev (fun k => impl_surfaceOf.f k p (basP p Q)) (surP p Q) := by
  obtain ⟨hp, h6, ha, _⟩ := genB_prime hg
  have hb := prime_bd hp
  have hl := bas_len hp h6 (gen_gen3 hg)
  have hok : impl_surfaceOf.ok p (basP p Q) = true := by
    unfold impl_surfaceOf.ok
    rw [Bool.and_eq_true, decide_eq_true_iff, List.all_eq_true]
    refine ⟨⟨by omega, by omega, hl⟩, fun a ha => ?_⟩
    obtain ⟨i, hi, rfl⟩ := getD_of_mem ha
    have := basP_row (Q := Q) hp i hi
    rw [Bool.and_eq_true, decide_eq_true_iff, List.all_eq_true]
    exact ⟨this.1, fun x hx => decide_eq_true (this.2 x hx)⟩
  unfold impl_surfaceOf.f
  refine Ev.bind exps_ev (Ev.bind trs_ev (Ev.yes ⟨hok, rfl, rfl⟩ ?_))
  have hs := solutions_ev hp (w := 20) (by omega) (rowsX p (basP p Q) 10) (by have := rowsX_len p (basP p Q) 10; omega) (rowsX_ok hp Q)
  rw [rowsX_null hp Q] at hs
  have hne := sur_ne hg
  refine Ev.bind hs (Ev.k ?_)
  rw [surP]
  cases h : nullP p 20 (surT p Q) with
  | nil => exact absurd h hne
  | cons a b => rfl

end Go.Proofs.Ytmgbpmihbljngaa.PA
namespace Go.Proofs.Ytmgbpmihbljngaa.PA
open Go.RowKit Go.Proofs.YtmgbpmihbljngaaW.PrintWords Go.Proofs.YtmgbpmihbljngaaW.PrintLast Go.Proofs.YtmgbpmihbljngaaW.PrintMore
set_option linter.unusedVariables false
set_option linter.unusedSimpArgs false

theorem isPlace_eq (p : Int) (a : List Int) : impl_isPlace.f p a = some (placeB p a) := by
  unfold impl_isPlace.f placeB
  rw [show (4 : Int) = ((4 : Nat) : Int) from rfl, areNumbers_eq]
  cases numsB p a 4 <;> rfl

end Go.Proofs.Ytmgbpmihbljngaa.PA
namespace Go.Proofs.Ytmgbpmihbljngaa.PA
open Go.RowKit Go.Proofs.YtmgbpmihbljngaaW.PrintWords Go.Proofs.YtmgbpmihbljngaaW.PrintLast Go.Proofs.YtmgbpmihbljngaaW.PrintMore
set_option linter.unusedVariables false
set_option linter.unusedSimpArgs false

theorem iSurfaceHas_ev (p : Int) (l : List S43) (a : List Int) : Ev (fun k => impl_SurfaceHas.f k p l a) (hasP p (tps l) a) := by
  have hlen : (tps l).length = l.length := by simp [tps]
  unfold impl_SurfaceHas.f hasP
  refine Ev.bind (areGeneral_ev p l) ?_
  cases hg : genB p (tps l) with
  | false => exact Ev.no (by simp) (Ev.now _)
  | true =>
    obtain ⟨hp, h6, ha, _⟩ := genB_prime hg
    have hb := prime_bd hp
    refine Ev.yes rfl (Ev.bind (Ev.k (isPlace_eq p a)) ?_)
    cases hpl : placeB p a with
    | false => exact Ev.no (by simp) (Ev.now _)
    | true =>
      rw [placeB, Bool.and_eq_true] at hpl
      have hn := sur_nums hg
      have hv := iValue_ev p (surP p (tps l)) a ⟨by omega, by omega⟩ (numsB_prime hn).2.1 (numsB_prime hpl.1).2.1 (small_of hn) (small_of hpl.1)
      refine Ev.yes rfl (Ev.bind (baseOf_ev hp l (by omega) fun j hj => ptB_inP ((apart_facts ha).1 j (by omega))) (Ev.bind (surfaceOf_ev hg) (Ev.bind hv ?_)))
      exact Ev.now _

end Go.Proofs.Ytmgbpmihbljngaa.PA
namespace Go.Proofs.Ytmgbpmihbljngaa.PA
open Go.RowKit Go.Proofs.YtmgbpmihbljngaaW.PrintWords Go.Proofs.YtmgbpmihbljngaaW.PrintLast Go.Proofs.YtmgbpmihbljngaaW.PrintMore
set_option linter.unusedVariables false
set_option linter.unusedSimpArgs false

theorem pl_low_eq {p : Int} (hp : primeB p = true) (x : Int) : pl_lowB p x = (decide (0 ≤ x) && decide (x < p)) := by
  have hb := prime_bd hp
  rw [pl_lowB, wsm (by omega) (by omega), show decide (x ≤ p - 1) = decide (x < p) from decide_eq_decide.2 (by omega)]
theorem PlaceIn_ev (p : Int) (l : List Int) : Ev (fun k => spec_PlaceIn.f k p l) (placeB p l) := by
  unfold spec_PlaceIn.f
  refine Ev.bind (Ev.k (PrimeIn_eq p)) ?_
  cases hp : primeB p with
  | false =>
    refine Ev.no (by simp) ?_
    rw [show placeB p l = false from by simp [placeB, numsB, hp]]
    exact Ev.now _
  | true =>
    refine Ev.yes rfl ?_
    by_cases hl : l.length = 4
    · refine Ev.yes hl ?_
      by_cases ha : l.all (pl_lowB p) = true
      · refine Ev.yes ha ?_
        have hr : ∀ x ∈ l, 0 ≤ x ∧ x < p := fun x hx => by
          have h1 := List.all_eq_true.1 ha x hx
          rw [pl_low_eq hp] at h1
          simpa using h1
        refine Ev.bind (l4Row_ev hp l hr (by omega)) (Ev.bind (l4Zero_ev l (by omega)) (Ev.yes (by simp [rowP, hl]) ?_))
        have e : (!(l.all fun x => x == 0) && (rowP p l == l)) = placeB p l := by
          rw [placeB, numsB_mk hp hl hr, Bool.true_and, ← rowP_self hp hr]
          congr 1
          rw [Bool.eq_iff_iff]; simp
        rw [e]
        exact Ev.now _
      · refine Ev.no ha ?_
        rw [show placeB p l = false from by
          cases hh : placeB p l with
          | false => rfl
          | true =>
            refine absurd (List.all_eq_true.2 fun x hx => ?_) ha
            rw [placeB, Bool.and_eq_true] at hh
            rw [pl_low_eq hp]
            simpa using (numsB_prime hh.1).2.2 x hx]
        exact Ev.now _
    · refine Ev.no hl ?_
      rw [show placeB p l = false from by
        cases hh : placeB p l with
        | false => rfl
        | true =>
          rw [placeB, Bool.and_eq_true] at hh
          exact absurd (numsB_prime hh.1).2.1 hl]
      exact Ev.now _

end Go.Proofs.Ytmgbpmihbljngaa.PA
namespace Go.Proofs.Ytmgbpmihbljngaa.PA
open Go.RowKit Go.Proofs.YtmgbpmihbljngaaW.PrintWords Go.Proofs.YtmgbpmihbljngaaW.PrintLast Go.Proofs.YtmgbpmihbljngaaW.PrintMore
set_option linter.unusedVariables false
set_option linter.unusedSimpArgs false

/-- the reference's sums -/
def sstep (p s x u v y : Int) : Int := Int.tmod (wrap64 (s + (wrap64 ((Int.tmod (wrap64 ((Int.tmod (wrap64 (x * u)) p) * v)) p) * y)))) p
theorem sstep_eq (p s s0 x u v y : Int) (hp : 7 ≤ p ∧ p ≤ 31) (hs : s = s0 % p) (hx : 0 ≤ x ∧ x ≤ 30) (hu : 0 ≤ u ∧ u ≤ 30) (hv : 0 ≤ v ∧ v ≤ 30) (hy : 0 ≤ y ∧ y ≤ 30) : sstep p s x u v y = (s0 + x * (u * v) * y) % p := by
  have m1 := mul_le_of hx.1 hx.2 hu.1 hu.2
  have n1 := Int.emod_nonneg (x * u) (show p ≠ 0 by omega)
  have n2 := Int.emod_lt_of_pos (x * u) (show 0 < p by omega)
  have m2 := mul_le_of n1 (show (x * u) % p ≤ 30 by omega) hv.1 hv.2
  have n3 := Int.emod_nonneg ((x * u) % p * v) (show p ≠ 0 by omega)
  have n4 := Int.emod_lt_of_pos ((x * u) % p * v) (show 0 < p by omega)
  have m3 := mul_le_of n3 (show (x * u) % p * v % p ≤ 30 by omega) hy.1 hy.2
  have n5 := Int.emod_nonneg s0 (show p ≠ 0 by omega)
  have n6 := Int.emod_lt_of_pos s0 (show 0 < p by omega)
  unfold sstep
  rw [wsm (i := x * u) (by omega) (by omega), Int.tmod_eq_emod_of_nonneg m1.1, wsm (i := (x * u) % p * v) (by omega) (by omega), Int.tmod_eq_emod_of_nonneg m2.1, wsm (i := (x * u) % p * v % p * y) (by omega) (by omega), hs, wsm (by omega) (by omega), Int.tmod_eq_emod_of_nonneg (by omega)]
  rw [Int.add_emod, Int.emod_emod, Int.mul_emod ((x * u) % p * v % p) y p, Int.emod_emod, Int.mul_emod ((x * u) % p) v p, Int.emod_emod, ← Int.mul_emod (x * u) v p, ← Int.mul_emod (x * u * v) y p, ← Int.add_emod, Int.mul_assoc x u v]
def sv2 (p : Int) (f a : List Int) (i j : Int) : Nat → Int → Int → Int → Int
  | 0, s, _, _ => s
  | d + 1, s, n, l => sv2 p f a i j d (sstep p s (rd f n) (rd a i) (rd a j) (rd a l)) (n + 1) (l + 1)
def sv1 (p : Int) (f a : List Int) (i : Int) : Nat → Int → Int → Int → Int
  | 0, s, _, _ => s
  | d + 1, s, n, j => sv1 p f a i d (sv2 p f a i j (d + 1) s n j) (n + (d + 1 : Nat)) (j + 1)
def sv0 (p : Int) (f a : List Int) : Nat → Int → Int → Int → Int
  | 0, s, _, _ => s
  | d + 1, s, n, i => sv0 p f a d (sv1 p f a i (d + 1) s n i) (n + tri (d + 1)) (i + 1)
theorem sv2_eq (p : Int) (f a : List Int) (hp : 7 ≤ p ∧ p ≤ 31) (hf : small f) (ha : small a) (i j : Int) : ∀ (d : Nat) (s s0 n l : Int), s = s0 % p → sv2 p f a i j d s n l = xs2 f a (rd a i * rd a j) d s0 n l % p
  | 0, s, s0, n, l, h => by rw [sv2, xs2, h]
  | d + 1, s, s0, n, l, h => by
    rw [sv2, xs2]
    exact sv2_eq p f a hp hf ha i j d _ _ _ _ (sstep_eq p s s0 _ _ _ _ hp h (hf n) (ha i) (ha j) (ha l))
theorem sv1_eq (p : Int) (f a : List Int) (hp : 7 ≤ p ∧ p ≤ 31) (hf : small f) (ha : small a) (i : Int) : ∀ (d : Nat) (s s0 n j : Int), s = s0 % p → sv1 p f a i d s n j = xs1 f a i d s0 n j % p
  | 0, s, s0, n, j, h => by rw [sv1, xs1, h]
  | d + 1, s, s0, n, j, h => by
    rw [sv1, xs1]
    exact sv1_eq p f a hp hf ha i d _ _ _ _ (sv2_eq p f a hp hf ha i j (d + 1) s s0 n j h)
theorem sv0_eq (p : Int) (f a : List Int) (hp : 7 ≤ p ∧ p ≤ 31) (hf : small f) (ha : small a) : ∀ (d : Nat) (s s0 n i : Int), s = s0 % p → sv0 p f a d s n i = xs0 f a d s0 n i % p
  | 0, s, s0, n, i, h => by rw [sv0, xs0, h]
  | d + 1, s, s0, n, i, h => by
    rw [sv0, xs0]
    exact sv0_eq p f a hp hf ha d _ _ _ _ (sv1_eq p f a hp hf ha i (d + 1) s s0 n i h)
theorem sValue_l2 (p : Int) (f a : List Int) (i j : Int) (hp : p ≠ 0) (hf : f.length = 20) (ha : a.length = 4) (hi : 0 ≤ i ∧ i < 4) (hj : 0 ≤ j ∧ j < 4) (r : Int) : ∀ (d : Nat) (s n l : Int), 0 ≤ n → n + d ≤ 20 → 0 ≤ l → l + d = 4 →
    Ev (fun k => spec_l6sValue.l1 k p f a (sv2 p f a i j d s n l) (n + d) i (wrap64 (j + 1))) r → Ev (fun k => spec_l6sValue.l2 k p f a s n i j l) r
  | 0, s, n, l, h1, h2, h3, h4, h => by
    refine Ev.step (f := fun k => spec_l6sValue.l1 k p f a s n i (wrap64 (j + 1))) (fun k => ?_) (by simpa [sv2] using h)
    rw [spec_l6sValue.l2, if_neg (by omega)]
  | d + 1, s, n, l, h1, h2, h3, h4, h => by
    refine Ev.step (f := fun k => spec_l6sValue.l2 k p f a (sstep p s (rd f n) (rd a i) (rd a j) (rd a l)) (n + 1) i j (l + 1)) (fun k => ?_) ?_
    · rw [spec_l6sValue.l2, if_pos (by omega), if_pos h1, if_pos (by omega), if_pos hi.1, if_pos (by omega), if_neg hp, if_pos hj.1, if_pos (by omega), if_pos h3, if_pos (by omega), wsm (i := n + 1) (by omega) (by omega), wsm (i := l + 1) (by omega) (by omega)]
      rfl
    · refine sValue_l2 p f a i j hp hf ha hi hj r d _ _ _ (by omega) (by omega) (by omega) (by omega) ?_
      rw [show n + 1 + (d : Int) = n + ((d + 1 : Nat) : Int) from by omega]
      exact h
theorem sValue_l1 (p : Int) (f a : List Int) (i : Int) (hp : p ≠ 0) (hf : f.length = 20) (ha : a.length = 4) (hi : 0 ≤ i ∧ i < 4) (r : Int) : ∀ (d : Nat) (s n j : Int), 0 ≤ n → n + tri d ≤ 20 → 0 ≤ j → j + d = 4 →
    Ev (fun k => spec_l6sValue.l0 k p f a (sv1 p f a i d s n j) (n + tri d) (wrap64 (i + 1))) r → Ev (fun k => spec_l6sValue.l1 k p f a s n i j) r
  | 0, s, n, j, h1, h2, h3, h4, h => by
    refine Ev.step (f := fun k => spec_l6sValue.l0 k p f a s n (wrap64 (i + 1))) (fun k => ?_) (by simpa [sv1, tri] using h)
    rw [spec_l6sValue.l1, if_neg (by omega)]
  | d + 1, s, n, j, h1, h2, h3, h4, h => by
    rw [tri] at h2
    refine Ev.step (f := fun k => spec_l6sValue.l2 k p f a s n i j j) (fun k => ?_) ?_
    · rw [spec_l6sValue.l1, if_pos (by omega)]
    · refine sValue_l2 p f a i j hp hf ha hi (by omega) r (d + 1) _ _ _ (by omega) (by omega) (by omega) (by omega) ?_
      rw [wsm (i := j + 1) (by omega) (by omega)]
      refine sValue_l1 p f a i hp hf ha hi r d _ _ _ (by omega) (by omega) (by omega) (by omega) ?_
      rw [show n + ((d + 1 : Nat) : Int) + (tri d : Int) = n + (tri (d + 1) : Int) from by rw [tri]; omega]
      exact h
theorem sValue_l0 (p : Int) (f a : List Int) (hp : p ≠ 0) (hf : f.length = 20) (ha : a.length = 4) (r : Int) (d : Nat) (s n i : Int) (h1 : 0 ≤ n) (h2 : n + tri (d + 1) ≤ 20) (h3 : 0 ≤ i) (h4 : i + (d + 1 : Nat) = 4)
    (h : Ev (fun k => spec_l6sValue.l0 k p f a (sv1 p f a i (d + 1) s n i) (n + tri (d + 1)) (i + 1)) r) : Ev (fun k => spec_l6sValue.l0 k p f a s n i) r := by
  refine Ev.step (f := fun k => spec_l6sValue.l1 k p f a s n i i) (fun k => ?_) ?_
  · rw [spec_l6sValue.l0, if_pos (by omega)]
  · refine sValue_l1 p f a i hp hf ha (by omega) r (d + 1) _ _ _ h1 h2 h3 h4 ?_
    rw [wsm (i := i + 1) (by omega) (by omega)]
    exact h
theorem sValue_ev' (p : Int) (f a : List Int) (hp : p ≠ 0) (hf : f.length = 20) (ha : a.length = 4) : Ev (fun k => spec_l6sValue.f k p f a) (sv0 p f a 4 0 0 0) := by
  unfold spec_l6sValue.f
  refine sValue_l0 p f a hp hf ha _ 3 _ _ _ (by omega) (by simp [tri]) (by omega) (by omega) ?_
  refine sValue_l0 p f a hp hf ha _ 2 _ _ _ (by simp [tri]) (by simp [tri]) (by omega) (by omega) ?_
  refine sValue_l0 p f a hp hf ha _ 1 _ _ _ (by simp [tri]) (by simp [tri]) (by omega) (by omega) ?_
  refine sValue_l0 p f a hp hf ha _ 0 _ _ _ (by simp [tri]) (by simp [tri]) (by omega) (by omega) ?_
  refine Ev.step (f := fun _ => some (sv0 p f a 4 0 0 0)) (fun k => ?_) (Ev.now _)
  rw [spec_l6sValue.l0, if_neg (by omega)]
  rfl
theorem sValue_ev (p : Int) (f a : List Int) (hp : 7 ≤ p ∧ p ≤ 31) (hf : f.length = 20) (ha : a.length = 4) (sf : small f) (sa : small a) : Ev (fun k => spec_l6sValue.f k p f a) (xval f a % p) := by
  have h := sValue_ev' p f a (by omega) hf ha
  rwa [sv0_eq p f a hp sf sa 4 0 0 0 0 (by simp)] at h

end Go.Proofs.Ytmgbpmihbljngaa.PA
namespace Go.Proofs.Ytmgbpmihbljngaa.PA
open Go.RowKit Go.Proofs.YtmgbpmihbljngaaW.PrintWords Go.Proofs.YtmgbpmihbljngaaW.PrintLast Go.Proofs.YtmgbpmihbljngaaW.PrintMore
set_option linter.unusedVariables false
set_option linter.unusedSimpArgs false

theorem sSurfaceHas_ev (p : Int) (l : List S43) (a : List Int) : Ev (fun k => spec_SurfaceHas.f k p l a) (hasP p (tps l) a) := by
  unfold spec_SurfaceHas.f hasP
  refine Ev.bind (PointGeneral_ev p l) ?_
  cases hg : genB p (tps l) with
  | false => exact Ev.no (by simp) (Ev.now _)
  | true =>
    obtain ⟨hp, h6, ha, _⟩ := genB_prime hg
    have hb := prime_bd hp
    refine Ev.yes rfl (Ev.bind (PlaceIn_ev p a) ?_)
    cases hpl : placeB p a with
    | false => exact Ev.no (by simp) (Ev.now _)
    | true =>
      rw [placeB, Bool.and_eq_true] at hpl
      have hn := sur_nums hg
      have hv := sValue_ev p (surP p (tps l)) a ⟨by omega, by omega⟩ (numsB_prime hn).2.1 (numsB_prime hpl.1).2.1 (small_of hn) (small_of hpl.1)
      refine Ev.yes rfl (Ev.bind (l6sOf_ev l hg) (Ev.bind hv ?_))
      exact Ev.now _

end Go.Proofs.Ytmgbpmihbljngaa.PA
namespace Go.Proofs.Ytmgbpmihbljngaa.PA
open Go.RowKit Go.Proofs.YtmgbpmihbljngaaW.PrintWords Go.Proofs.YtmgbpmihbljngaaW.PrintLast Go.Proofs.YtmgbpmihbljngaaW.PrintMore
set_option linter.unusedVariables false
set_option linter.unusedSimpArgs false

/-- a point of the laws as one of the program -/
def toP (x : S76) : S43 := ⟨⟨x.f0.f0, x.f0.f1, x.f0.f2⟩⟩
theorem toPointS_l (l : List S76) (hl : l.length ≤ 1048576) : ∀ (d i : Nat) (acc : List S43), i + d = l.length → acc = (l.take i).map toP ++ List.replicate d z43 → Ev (fun k => laws_toPointS.l0 k l acc (i : Int)) (l.map toP)
  | 0, i, acc, hi, ha => by
    rw [List.take_of_length_le (by omega), List.replicate_zero, List.append_nil] at ha
    subst ha
    exact Ev.step (f := fun _ => some (l.map toP)) (fun q => by rw [laws_toPointS.l0, if_neg (by omega)]) (Ev.now _)
  | d + 1, i, acc, hi, ha => by
    have hil : i < l.length := by omega
    have hal : acc.length = l.length := by rw [ha, List.length_append, List.length_map, List.length_take, List.length_replicate]; omega
    have e : laws_toPoint.f (rd_T76 l (i : Int)).f0.f0 (rd_T76 l (i : Int)).f0.f1 (rd_T76 l (i : Int)).f0.f2 = some ((rd_T76 l (i : Int)).f0.f0, (rd_T76 l (i : Int)).f0.f1, (rd_T76 l (i : Int)).f0.f2) := rfl
    refine Ev.step (fun q => by rw [laws_toPointS.l0, if_pos (by omega), if_pos (by omega), e, Option.bind_some, if_pos (by omega), wsm (by omega) (by omega)]) ?_
    refine toPointS_l l hl d (i + 1) _ (by omega) ?_
    have er : rd_T76 l (i : Int) = l[i] := by simp [rd_T76, List.getD_eq_getElem?_getD, hil]
    rw [er, Int.toNat_natCast, ha, List.set_append_right _ _ (by rw [List.length_map, List.length_take]; omega), List.length_map, List.length_take, Nat.min_eq_left (by omega), Nat.sub_self, List.replicate_succ, List.set_cons_zero, List.take_add_one, List.map_append, List.getElem?_eq_getElem hil]
    simp [toP]
theorem toPointS_ev (l : List S76) (hl : l.length ≤ 1048576) : Ev (fun k => laws_toPointS.f k l) (l.map toP) := by
  unfold laws_toPointS.f
  refine Ev.yes (by omega) (Ev.yes (by omega) ?_)
  exact toPointS_l l hl l.length 0 _ (by omega) (by simp)

end Go.Proofs.Ytmgbpmihbljngaa.PA
namespace Go.Proofs.Ytmgbpmihbljngaa.PA
open Go.RowKit Go.Proofs.YtmgbpmihbljngaaW.PrintWords Go.Proofs.YtmgbpmihbljngaaW.PrintLast Go.Proofs.YtmgbpmihbljngaaW.PrintMore
set_option linter.unusedVariables false
set_option linter.unusedSimpArgs false

theorem eqPoint_self (x y z : Int) : laws_eqPoint.f x y z x y z = some true := by simp [laws_eqPoint.f, laws_eqIntA3.f]
theorem eqPointS_l (l : List S43) (hl : l.length ≤ 1048576) : ∀ (d i : Nat), i + d = l.length → Ev (fun k => laws_eqPointS.l0 k l l (i : Int)) true
  | 0, i, hi => Ev.step (f := fun _ => some true) (fun q => by rw [laws_eqPointS.l0, if_neg (by omega)]) (Ev.now _)
  | d + 1, i, hi => by
    refine Ev.step (fun q => by rw [laws_eqPointS.l0, if_pos (by omega), if_pos (by omega), if_pos (by omega), eqPoint_self, Option.bind_some, if_pos rfl, wsm (by omega) (by omega)]) ?_
    exact eqPointS_l l hl d (i + 1) (by omega)
theorem eqPointS_ev (l : List S43) (hl : l.length ≤ 1048576) : Ev (fun k => laws_eqPointS.f k l l) true := by
  unfold laws_eqPointS.f
  exact Ev.yes rfl (eqPointS_l l hl l.length 0 (by omega))

end Go.Proofs.Ytmgbpmihbljngaa.PA
namespace Go.Proofs.Ytmgbpmihbljngaa.PA
open Go.RowKit Go.Proofs.YtmgbpmihbljngaaW.PrintWords Go.Proofs.YtmgbpmihbljngaaW.PrintLast Go.Proofs.YtmgbpmihbljngaaW.PrintMore
set_option linter.unusedVariables false
set_option linter.unusedSimpArgs false

theorem szPointS_eq (l : List S76) (hm : l.length ≤ maxLen) : laws_szPointS.f l 1048576 = some (if l.length ≤ 1048576 then 1048576 - (l.length : Int) else -1) := by
  have h2 : maxLen ≤ 9223372036854775807 := by decide
  unfold laws_szPointS.f
  have e : wrap64 (1048576 - (l.length : Int)) = 1048576 - (l.length : Int) := by unfold wrap64; omega
  rw [e]
  by_cases h : l.length ≤ 1048576
  · rw [if_neg (by omega), if_pos h]
  · rw [if_pos (by omega), if_neg h]

end Go.Proofs.Ytmgbpmihbljngaa.PA
namespace Go.Proofs.Ytmgbpmihbljngaa.PA
open Go.RowKit Go.Proofs.YtmgbpmihbljngaaW.PrintWords Go.Proofs.YtmgbpmihbljngaaW.PrintLast Go.Proofs.YtmgbpmihbljngaaW.PrintMore
set_option linter.unusedVariables false
set_option linter.unusedSimpArgs false

theorem toIntS_l (l : List Int) (hl : l.length ≤ 1048576) : ∀ (d : Nat) (i : Nat) (acc : List Int), i + d = l.length → acc.length = l.length → Ev (fun k => laws_toIntS.l0 k l acc (i : Int)) (acc.take i ++ l.drop i)
  | 0, i, acc, h, ha => by
    refine Ev.step (f := fun _ => some acc) (fun k => ?_) ?_
    · rw [laws_toIntS.l0, if_neg (by omega)]
    · rw [List.drop_eq_nil_of_le (by omega), List.take_of_length_le (by omega), List.append_nil]; exact Ev.now _
  | d + 1, i, acc, h, ha => by
    refine Ev.step (f := fun k => laws_toIntS.l0 k l (acc.set i (rd l (i : Int))) ((i + 1 : Nat) : Int)) (fun k => ?_) ?_
    · rw [laws_toIntS.l0, if_pos (by omega), if_pos (by omega), if_pos (by omega), wsm (by omega) (by omega)]
      simp
    · have := toIntS_l l hl d (i + 1) (acc.set i (rd l (i : Int))) (by omega) (by simp [ha])
      rw [List.take_add_one, List.take_set_of_le (Nat.le_refl i)] at this
      rw [rd_drop l i (by omega)]
      simpa [List.getElem?_set_self, ha, show i < l.length by omega] using this
theorem toIntS_ev (l : List Int) (hl : l.length ≤ 1048576) : Ev (fun k => laws_toIntS.f k l) l := by
  unfold laws_toIntS.f
  refine Ev.yes (by omega) (Ev.yes (by simp; omega) ?_)
  have := toIntS_l l hl l.length 0 (List.replicate l.length 0) (by omega) (by simp)
  simpa using this

end Go.Proofs.Ytmgbpmihbljngaa.PA
namespace Go.Proofs.Ytmgbpmihbljngaa.PA
open Go.RowKit Go.Proofs.YtmgbpmihbljngaaW.PrintWords Go.Proofs.YtmgbpmihbljngaaW.PrintLast Go.Proofs.YtmgbpmihbljngaaW.PrintMore
set_option linter.unusedVariables false
set_option linter.unusedSimpArgs false

theorem eqIntS_l (a b : List Int) (hab : a.length = b.length) (hl : a.length ≤ 1000000000) : ∀ (d : Nat) (i : Nat), i + d = a.length → Ev (fun k => laws_eqIntS.l0 k a b (i : Int)) (decide (a.drop i = b.drop i))
  | 0, i, h => by
    refine Ev.step (f := fun _ => some true) (fun k => ?_) ?_
    · rw [laws_eqIntS.l0, if_neg (by omega)]
    · rw [List.drop_eq_nil_of_le (by omega), List.drop_eq_nil_of_le (by omega)]; exact Ev.now _
  | d + 1, i, h => by
    have ih := eqIntS_l a b hab hl d (i + 1) (by omega)
    rw [rd_drop a i (by omega), rd_drop b i (by omega)]
    by_cases hr : rd a (i : Int) = rd b (i : Int)
    · refine Ev.step (f := fun k => laws_eqIntS.l0 k a b ((i + 1 : Nat) : Int)) (fun k => ?_) ?_
      · rw [laws_eqIntS.l0, if_pos (by omega), if_pos (by omega), if_pos (by omega), if_pos hr, wsm (by omega) (by omega)]
        simp
      · simpa [hr] using ih
    · refine Ev.step (f := fun _ => some false) (fun k => ?_) ?_
      · rw [laws_eqIntS.l0, if_pos (by omega), if_pos (by omega), if_pos (by omega), if_neg hr]
      · simpa [hr] using Ev.now false
theorem eqIntS_ev (a b : List Int) (hl : a.length ≤ 1000000000) : Ev (fun k => laws_eqIntS.f k a b) (decide (a = b)) := by
  unfold laws_eqIntS.f
  refine Ev.ite (fun h => ?_) (fun h => ?_)
  · simpa using eqIntS_l a b (by omega) hl a.length 0 (by omega)
  · rw [decide_eq_false (fun e => h (by rw [e]))]; exact Ev.now _

end Go.Proofs.Ytmgbpmihbljngaa.PA
namespace Go.Proofs.Ytmgbpmihbljngaa.PA
open Go.RowKit Go.Proofs.YtmgbpmihbljngaaW.PrintWords Go.Proofs.YtmgbpmihbljngaaW.PrintLast Go.Proofs.YtmgbpmihbljngaaW.PrintMore
set_option linter.unusedVariables false
set_option linter.unusedSimpArgs false

theorem FnExactSurfaceHas_ev (p : Int) (six : List S76) (a : List Int) (hm : six.length ≤ maxLen) (ha : a.length ≤ maxLen) : Ev (fun k => laws_FnExactSurfaceHas.f k p six a) true := by
  unfold laws_FnExactSurfaceHas.f
  refine Ev.ite (fun _ => Ev.now _) (fun ha => ?_)
  have ha' : a.length ≤ 1048576 := by omega
  refine Ev.bind (Ev.k (szPointS_eq six hm)) ?_
  by_cases hl : six.length ≤ 1048576
  rotate_left
  · rw [if_neg hl]; exact Ev.yes (by omega) (Ev.now _)
  rw [if_pos hl]
  refine Ev.no (by omega) ?_
  have hq : (six.map toP).length ≤ 1048576 := by rw [List.length_map]; exact hl
  have ht := toPointS_ev six hl
  have hi := iSurfaceHas_ev p (six.map toP) a
  have hs := sSurfaceHas_ev p (six.map toP) a
  generalize hasP p (tps (six.map toP)) a = t at *
  generalize six.map toP = Q at *
  refine Ev.bind ht (Ev.bind (toIntS_ev a ha') (Ev.bind hs (Ev.bind ht (Ev.bind (toIntS_ev a ha') (Ev.bind hi ?_)))))
  refine Ev.no (by simp) ?_
  refine Ev.bind ht (Ev.bind (eqPointS_ev Q hq) ?_)
  refine Ev.yes rfl (Ev.bind (toIntS_ev a ha') (Ev.bind (eqIntS_ev a a (by omega)) ?_))
  rw [decide_eq_true rfl]
  exact Ev.yes rfl (Ev.now _)

end Go.Proofs.Ytmgbpmihbljngaa.PA

namespace Go.Proofs.Ytmgbpmihbljngaa.Pure
open Go.RowKit Go.Proofs.Ytmgbpmihbljngaa.PA Go.Proofs.YtmgbpmihbljngaaW.PrintWords Go.Proofs.YtmgbpmihbljngaaW.PrintLast
theorem FnExactSurfaceHas (p : Int) (six : List S76) (a : List Int) (hm : six.length ≤ maxLen) (ha : a.length ≤ maxLen) : ∃ k, laws_FnExactSurfaceHas.f k p six a = some true := (FnExactSurfaceHas_ev p six a hm ha).rounds
end Go.Proofs.Ytmgbpmihbljngaa.Pure
