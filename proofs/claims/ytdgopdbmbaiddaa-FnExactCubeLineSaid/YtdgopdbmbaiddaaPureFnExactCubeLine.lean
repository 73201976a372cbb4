/- For all whole numbers p and k the program's CubeLine returns what the reference's returns, in memory of its own. No conditions. -/
import Derived.Test.YtdgopdbmbaiddaaWMore
import Derived.Test.YtdgopdbmbaiddaaPAx1
import Derived.Test.YtdgopdbmbaiddaaPAx6
import Derived.Test.YtdgopdbmbaiddaaPAx12
import Derived.Test.YtdgopdbmbaiddaaPAx11
import Derived.Test.YtdgopdbmbaiddaaPAx13
import Derived.Test.YtdgopdbmbaiddaaPAx9
namespace Go.Proofs.Ytdgopdbmbaiddaa.PA
open Go.RowKit Go.Proofs.YtdgopdbmbaiddaaW.PrintWords Go.Proofs.YtdgopdbmbaiddaaW.PrintLast Go.Proofs.YtdgopdbmbaiddaaW.PrintMore
set_option linter.unusedVariables false
set_option linter.unusedSimpArgs false

theorem wsm {i : Int} (h0 : -1000000000000000000 ≤ i) (h : i ≤ 1000000000000000000) : wrap64 i = i := by unfold wrap64; omega
theorem Ev.none_ {α : Type} {g : Nat → Option α} {r r' : α} (h : Ev g r) (h' : Ev g r') : r = r' := by
  obtain ⟨a, ha⟩ := h
  obtain ⟨b, hb⟩ := h'
  have h1 := ha (max a b) (Nat.le_max_left _ _)
  have h2 := hb (max a b) (Nat.le_max_right _ _)
  exact Option.some.inj (h1.symm.trans h2)
theorem Ev.k {α : Type} {x : Option α} {r : α} (h : x = some r) : Ev (fun _ => x) r := ⟨0, fun _ _ => h⟩
theorem Ev.ite {α : Type} {c : Prop} [Decidable c] {g f : Nat → Option α} {r : α} (h1 : c → Ev g r) (h2 : ¬ c → Ev f r) : Ev (fun k => if c then g k else f k) r := by
  by_cases h : c
  · exact (h1 h).congr (fun k => if_pos h)
  · exact (h2 h).congr (fun k => if_neg h)
theorem Ev.yes {α : Type} {c : Prop} [Decidable c] {g f : Nat → Option α} {r : α} (h : c) (h1 : Ev g r) : Ev (fun k => if c then g k else f k) r := h1.congr (fun k => if_pos h)
theorem Ev.no {α : Type} {c : Prop} [Decidable c] {g f : Nat → Option α} {r : α} (h : ¬ c) (h1 : Ev f r) : Ev (fun k => if c then g k else f k) r := h1.congr (fun k => if_neg h)
theorem rd_at (l : List Int) (j : Nat) (h : j < l.length) : rd l (j : Int) = l[j] := by simp [rd, List.getD_eq_getElem?_getD, h]
theorem rd_drop (l : List Int) (j : Nat) (h : j < l.length) : l.drop j = rd l (j : Int) :: l.drop (j + 1) := by rw [rd_at l j h, List.drop_eq_getElem_cons h]

end Go.Proofs.Ytdgopdbmbaiddaa.PA
namespace Go.Proofs.Ytdgopdbmbaiddaa.PA
open Go.RowKit Go.Proofs.YtdgopdbmbaiddaaW.PrintWords Go.Proofs.YtdgopdbmbaiddaaW.PrintLast Go.Proofs.YtdgopdbmbaiddaaW.PrintMore
set_option linter.unusedVariables false
set_option linter.unusedSimpArgs false

theorem PrimeIn_eq (p : Int) : spec_PrimeIn.f p = some (primeB p) := by
  unfold spec_PrimeIn.f primeB
  repeat' split
  all_goals first | (subst_vars; rfl) | (congr 1; symm; rw [decide_eq_true_iff]; omega) | (congr 1; symm; rw [decide_eq_false_iff_not]; omega)
theorem primeB_cases {p : Int} (h : primeB p = true) : p = 7 ∨ p = 11 ∨ p = 13 ∨ p = 17 ∨ p = 19 ∨ p = 23 ∨ p = 29 ∨ p = 31 := of_decide_eq_true h
theorem isPrime_ev (p : Int) : Ev (fun k => impl_isPrime.f k p) (primeB p) := Ev.of (impl_isPrime.mono p) (isPrime_f p)
/-- n numbers modulo a prime -/
def numsB (p : Int) (l : List Int) (n : Nat) : Bool := primeB p && decide (l.length = n) && l.all fun x => decide (0 ≤ x) && decide (x < p)
theorem areNumbers_eq (p : Int) (l : List Int) (n : Nat) : impl_areNumbers.f p l (n : Int) = some (numsB p l n) := by
  unfold impl_areNumbers.f numsB
  congr 3
  rw [Bool.eq_iff_iff, decide_eq_true_iff, decide_eq_true_iff]
  omega
theorem numsB_prime {p : Int} {l : List Int} {n : Nat} (h : numsB p l n = true) : primeB p = true ∧ l.length = n ∧ ∀ x ∈ l, 0 ≤ x ∧ x < p := by
  unfold numsB at h
  rw [Bool.and_eq_true, Bool.and_eq_true] at h
  refine ⟨h.1.1, of_decide_eq_true h.1.2, fun x hx => ?_⟩
  have := List.all_eq_true.1 h.2 x hx
  rw [Bool.and_eq_true] at this
  exact ⟨of_decide_eq_true this.1, of_decide_eq_true this.2⟩
theorem numsB_mk {p : Int} {l : List Int} {n : Nat} (h1 : primeB p = true) (h2 : l.length = n) (h3 : ∀ x ∈ l, 0 ≤ x ∧ x < p) : numsB p l n = true := by
  unfold numsB
  rw [h1, decide_eq_true h2, Bool.true_and, Bool.true_and, List.all_eq_true]
  intro x hx
  rw [decide_eq_true (h3 x hx).1, decide_eq_true (h3 x hx).2]; rfl
theorem prime_bd {p : Int} (h : primeB p = true) : 7 ≤ p ∧ p ≤ 31 := by have := primeB_cases h; omega
theorem rd_range {p : Int} {l : List Int} {n : Nat} (h : numsB p l n = true) (i : Int) (h0 : 0 ≤ i) (h1 : i < n) : 0 ≤ rd l i ∧ rd l i < p := by
  obtain ⟨_, hl, hr⟩ := numsB_prime h
  obtain ⟨j, rfl⟩ := Int.eq_ofNat_of_zero_le h0
  rw [rd_at l j (by omega)]
  exact hr _ (List.getElem_mem _)

end Go.Proofs.Ytdgopdbmbaiddaa.PA
namespace Go.Proofs.Ytdgopdbmbaiddaa.PA
open Go.RowKit Go.Proofs.YtdgopdbmbaiddaaW.PrintWords Go.Proofs.YtdgopdbmbaiddaaW.PrintLast Go.Proofs.YtdgopdbmbaiddaaW.PrintMore
set_option linter.unusedVariables false
set_option linter.unusedSimpArgs false

/-- the numbers whose cube is -1, if there are three -/
def rootsT (p : Int) : List Int := if p = 7 then [3, 5, 6] else if p = 13 then [4, 10, 12] else if p = 19 then [8, 12, 18] else if p = 31 then [6, 26, 30] else []
theorem rootsT_not {p : Int} (h : primeB p = false) : rootsT p = [] := by
  have : ¬ (p = 7 ∨ p = 11 ∨ p = 13 ∨ p = 17 ∨ p = 19 ∨ p = 23 ∨ p = 29 ∨ p = 31) := of_decide_eq_false h
  unfold rootsT
  rw [if_neg (by omega), if_neg (by omega), if_neg (by omega), if_neg (by omega)]
theorem rootsT_cases (p : Int) : rootsT p = [] ∨ (p = 7 ∨ p = 13 ∨ p = 19 ∨ p = 31) := by
  unfold rootsT
  by_cases h1 : p = 7
  · exact .inr (.inl h1)
  by_cases h2 : p = 13
  · exact .inr (.inr (.inl h2))
  by_cases h3 : p = 19
  · exact .inr (.inr (.inr (.inl h3)))
  by_cases h4 : p = 31
  · exact .inr (.inr (.inr (.inr h4)))
  · rw [if_neg h1, if_neg h2, if_neg h3, if_neg h4]; exact .inl rfl
theorem iRoots_table : ∀ p ∈ ([7, 11, 13, 17, 19, 23, 29, 31] : List Int), impl_cubeRoots.f 60 p = some (rootsT p) := by decide +kernel
theorem iRoots_ev (p : Int) : Ev (fun k => impl_cubeRoots.f k p) (rootsT p) := by
  cases hp : primeB p with
  | true => exact Ev.of (impl_cubeRoots.mono p) (iRoots_table p (by have := primeB_cases hp; simp; omega))
  | false =>
    unfold impl_cubeRoots.f
    refine Ev.bind (isPrime_ev p) ?_
    rw [hp, rootsT_not hp]
    exact Ev.no (by simp) (Ev.now _)

end Go.Proofs.Ytdgopdbmbaiddaa.PA
namespace Go.Proofs.Ytdgopdbmbaiddaa.PA
open Go.RowKit Go.Proofs.YtdgopdbmbaiddaaW.PrintWords Go.Proofs.YtdgopdbmbaiddaaW.PrintLast Go.Proofs.YtdgopdbmbaiddaaW.PrintMore
set_option linter.unusedVariables false
set_option linter.unusedSimpArgs false

theorem sRoots_table : ∀ p ∈ ([7, 11, 13, 17, 19, 23, 29, 31] : List Int), spec_CubeRoots.f 60 p = some (rootsT p, decide (rootsT p ≠ [])) := by decide +kernel
theorem sRoots_ev (p : Int) : Ev (fun k => spec_CubeRoots.f k p) (rootsT p, decide (rootsT p ≠ [])) := by
  cases hp : primeB p with
  | true => exact Ev.of (spec_CubeRoots.mono p) (sRoots_table p (by have := primeB_cases hp; simp; omega))
  | false =>
    unfold spec_CubeRoots.f
    refine Ev.bind (Ev.k (PrimeIn_eq p)) ?_
    rw [hp, rootsT_not hp]
    exact Ev.no (by simp) (Ev.now _)

end Go.Proofs.Ytdgopdbmbaiddaa.PA
namespace Go.Proofs.Ytdgopdbmbaiddaa.PA
open Go.RowKit Go.Proofs.YtdgopdbmbaiddaaW.PrintWords Go.Proofs.YtdgopdbmbaiddaaW.PrintLast Go.Proofs.YtdgopdbmbaiddaaW.PrintMore
set_option linter.unusedVariables false
set_option linter.unusedSimpArgs false

/-- a line of cubes -/
def lineC (p k : Int) : List Int := (impl_cubeLine.f 60 p (rootsT p) k).getD []
theorem cubeLine_table : ∀ p ∈ ([7, 13, 19, 31] : List Int), ∀ k ∈ List.range 27, impl_cubeLine.f 60 p (rootsT p) (k : Int) = some (lineC p (k : Int)) ∧ spec_l8Line.f 60 p (rootsT p) (k : Int) = some (lineC p (k : Int)) ∧ (lineC p (k : Int)).length = 8 := by decide +kernel
theorem cubeLine_ev {p k : Int} (hp : p = 7 ∨ p = 13 ∨ p = 19 ∨ p = 31) (h0 : 0 ≤ k) (h1 : k < 27) : Ev (fun n => impl_cubeLine.f n p (rootsT p) k) (lineC p k) ∧ Ev (fun n => spec_l8Line.f n p (rootsT p) k) (lineC p k) ∧ (lineC p k).length = 8 := by
  have h := cubeLine_table p (by simp; omega) k.toNat (by simp; omega)
  rw [show ((k.toNat : Nat) : Int) = k by omega] at h
  exact ⟨Ev.of (impl_cubeLine.mono _ _ _) h.1, Ev.of (spec_l8Line.mono _ _ _) h.2.1, h.2.2⟩

end Go.Proofs.Ytdgopdbmbaiddaa.PA
namespace Go.Proofs.Ytdgopdbmbaiddaa.PA
open Go.RowKit Go.Proofs.YtdgopdbmbaiddaaW.PrintWords Go.Proofs.YtdgopdbmbaiddaaW.PrintLast Go.Proofs.YtdgopdbmbaiddaaW.PrintMore
set_option linter.unusedVariables false
set_option linter.unusedSimpArgs false

/-- what CubeLine returns -/
def clP (p k : Int) : List Int × Bool := if rootsT p ≠ [] ∧ 0 ≤ k ∧ k < 27 then (lineC p k, true) else ([], false)
theorem iCubeLine_ev (p k : Int) : Ev (fun n => impl_CubeLine.f n p k) (clP p k) := by
  unfold impl_CubeLine.f clP
  refine Ev.bind (iRoots_ev p) ?_
  rcases rootsT_cases p with h | h
  · rw [h, if_neg (by simp)]; exact Ev.no (by simp) (Ev.now _)
  · have hl : (rootsT p).length = 3 := by rcases h with rfl | rfl | rfl | rfl <;> rfl
    have hne : rootsT p ≠ [] := by intro e; rw [e] at hl; simp at hl
    refine Ev.yes (by omega) ?_
    by_cases h0 : 0 ≤ k
    · refine Ev.bind (a := decide (k < 27)) (Ev.k (by unfold impl_isLine.f; rw [if_pos (by omega)])) ?_
      by_cases h1 : k < 27
      · rw [if_pos ⟨hne, h0, h1⟩, decide_eq_true h1]
        exact Ev.yes rfl (Ev.bind (cubeLine_ev h h0 h1).1 (Ev.now _))
      · rw [if_neg (fun e => h1 e.2.2), decide_eq_false h1]
        exact Ev.no (by simp) (Ev.now _)
    · refine Ev.bind (a := false) (Ev.k (by unfold impl_isLine.f; rw [if_neg (by omega)])) ?_
      rw [if_neg (fun e => h0 e.2.1)]
      exact Ev.no (by simp) (Ev.now _)
theorem sCubeLine_ev (p k : Int) : Ev (fun n => spec_CubeLine.f n p k) (clP p k) := by
  unfold spec_CubeLine.f clP
  refine Ev.bind (sRoots_ev p) ?_
  rcases rootsT_cases p with h | h
  · rw [h, if_neg (by simp)]; exact Ev.no (by simp) (Ev.now _)
  · have hl : (rootsT p).length = 3 := by rcases h with rfl | rfl | rfl | rfl <;> rfl
    have hne : rootsT p ≠ [] := by intro e; rw [e] at hl; simp at hl
    refine Ev.yes (by simp [hne]) ?_
    by_cases h0 : 0 ≤ k
    · refine Ev.bind (a := decide (k ≤ 26)) (Ev.k (by unfold spec_l6In.f; rw [if_pos (by omega)])) ?_
      by_cases h1 : k < 27
      · rw [if_pos ⟨hne, h0, h1⟩, decide_eq_true (show k ≤ 26 by omega)]
        exact Ev.yes rfl (Ev.bind (cubeLine_ev h h0 h1).2.1 (Ev.now _))
      · rw [if_neg (fun e => h1 e.2.2), decide_eq_false (show ¬ k ≤ 26 by omega)]
        exact Ev.no (by simp) (Ev.now _)
    · refine Ev.bind (a := false) (Ev.k (by unfold spec_l6In.f; rw [if_neg (by omega)])) ?_
      rw [if_neg (fun e => h0 e.2.1)]
      exact Ev.no (by simp) (Ev.now _)
theorem clP_len (p k : Int) : (clP p k).1.length ≤ 8 := by
  unfold clP
  split
  · next h =>
    rcases rootsT_cases p with h2 | h2
    · exact absurd h2 h.1
    · exact Nat.le_of_eq (cubeLine_ev h2 h.2.1 h.2.2).2.2
  · simp

end Go.Proofs.Ytdgopdbmbaiddaa.PA
namespace Go.Proofs.Ytdgopdbmbaiddaa.PA
open Go.RowKit Go.Proofs.YtdgopdbmbaiddaaW.PrintWords Go.Proofs.YtdgopdbmbaiddaaW.PrintLast Go.Proofs.YtdgopdbmbaiddaaW.PrintMore
set_option linter.unusedVariables false
set_option linter.unusedSimpArgs false

theorem eqIntS_l (a b : List Int) (hab : a.length = b.length) (hl : a.length ≤ 1000000000) : ∀ (d : Nat) (i : Nat), i + d = a.length → Ev (fun k => laws_eqIntS.l0 k a b (i : Int)) (decide (a.drop i = b.drop i))
  | 0, i, h => by
    refine Ev.step (f := fun _ => some true) (fun k => ?_) ?_
    · rw [laws_eqIntS.l0, if_neg (by omega)]
    · rw [List.drop_eq_nil_of_le (by omega), List.drop_eq_nil_of_le (by omega)]; exact Ev.now _
  | d + 1, i, h => by
    have ih := eqIntS_l a b hab hl d (i + 1) (by omega)
    rw [rd_drop a i (by omega), rd_drop b i (by omega)]
    by_cases hr : rd a (i : Int) = rd b (i : Int)
    · refine Ev.step (f := fun k => laws_eqIntS.l0 k a b ((i + 1 : Nat) : Int)) (fun k => ?_) ?_
      · rw [laws_eqIntS.l0, if_pos (by omega), if_pos (by omega), if_pos (by omega), if_pos hr, wsm (by omega) (by omega)]
        simp
      · simpa [hr] using ih
    · refine Ev.step (f := fun _ => some false) (fun k => ?_) ?_
      · rw [laws_eqIntS.l0, if_pos (by omega), if_pos (by omega), if_pos (by omega), if_neg hr]
      · simpa [hr] using Ev.now false
theorem eqIntS_ev (a b : List Int) (hl : a.length ≤ 1000000000) : Ev (fun k => laws_eqIntS.f k a b) (decide (a = b)) := by
  unfold laws_eqIntS.f
  refine Ev.ite (fun h => ?_) (fun h => ?_)
  · simpa using eqIntS_l a b (by omega) hl a.length 0 (by omega)
  · rw [decide_eq_false (fun e => h (by rw [e]))]; exact Ev.now _

end Go.Proofs.Ytdgopdbmbaiddaa.PA
namespace Go.Proofs.Ytdgopdbmbaiddaa.PA
open Go.RowKit Go.Proofs.YtdgopdbmbaiddaaW.PrintWords Go.Proofs.YtdgopdbmbaiddaaW.PrintLast Go.Proofs.YtdgopdbmbaiddaaW.PrintMore
set_option linter.unusedVariables false
set_option linter.unusedSimpArgs false

/-- the numbers from s on -/
def marks (s : Int) (n : Nat) : List Int := (List.range n).map fun (i : Nat) => s + (i : Int)
theorem marks_len (s : Int) (n : Nat) : (marks s n).length = n := by simp [marks]
theorem marks_get (s : Int) (n i : Nat) (h : i < n) : (marks s n)[i]? = some (s + (i : Int)) := by simp [marks, h]
theorem mark_l (l : List Int) (s : Int) (hs : 0 ≤ s ∧ s ≤ 1000000000) (hl : l.length ≤ 1000000000) : ∀ (d i : Nat), i + d = l.length → Ev (fun k => laws_markIntS.l0 k ((marks s l.length).take i ++ l.drop i) (s + (i : Int)) (i : Int)) (s + (l.length : Int), marks s l.length)
  | 0, i, h => by
    refine Ev.step (f := fun _ => some (s + (l.length : Int), marks s l.length)) (fun k => ?_) (Ev.now _)
    rw [List.drop_eq_nil_of_le (by omega), List.append_nil, List.take_of_length_le (by rw [marks_len]; omega), laws_markIntS.l0, if_neg (by rw [marks_len]; omega)]
    rw [show i = l.length by omega]
  | d + 1, i, h => by
    refine Ev.step (f := fun k => laws_markIntS.l0 k ((marks s l.length).take (i + 1) ++ l.drop (i + 1)) (s + ((i + 1 : Nat) : Int)) ((i + 1 : Nat) : Int)) (fun k => ?_) (mark_l l s hs hl d (i + 1) (by omega))
    have hlen : ((marks s l.length).take i ++ l.drop i).length = l.length := by simp [marks_len]; omega
    have hset : ((marks s l.length).take i ++ l.drop i).set i (s + (i : Int)) = (marks s l.length).take (i + 1) ++ l.drop (i + 1) := by
      have hi : i < l.length := by omega
      rw [List.set_append_right _ _ (by simp [marks_len]; omega), List.length_take, marks_len, Nat.min_eq_left (by omega), Nat.sub_self, List.drop_eq_getElem_cons hi, List.set_cons_zero, List.take_add_one, marks_get s _ i hi]
      simp
    rw [laws_markIntS.l0, if_pos (by rw [hlen]; omega), if_pos (by omega), Int.toNat_natCast, hset, wsm (i := s + (i : Int) + 1) (by omega) (by omega), wsm (i := (i : Int) + 1) (by omega) (by omega)]
    rw [show s + (i : Int) + 1 = s + ((i + 1 : Nat) : Int) by omega]
    rfl
theorem mark_ev (l : List Int) (s : Int) (hs : 0 ≤ s ∧ s ≤ 1000000000) (hl : l.length ≤ 1000000000) : Ev (fun k => laws_markIntS.f k l s) (s + (l.length : Int), marks s l.length) := by
  unfold laws_markIntS.f
  simpa using mark_l l s hs hl l.length 0 (by omega)
theorem held_l (n : Nat) (s : Int) (hs : 0 ≤ s ∧ s ≤ 1000000000) (hl : n ≤ 1000000000) : ∀ (d i : Nat), i + d = n → Ev (fun k => laws_heldIntS.l0 k (marks s n) (s + (i : Int)) (i : Int)) (s + (n : Int))
  | 0, i, h => by
    refine Ev.step (f := fun _ => some (s + (n : Int))) (fun k => ?_) (Ev.now _)
    rw [laws_heldIntS.l0, if_neg (by rw [marks_len]; omega), show i = n by omega]
  | d + 1, i, h => by
    refine Ev.step (f := fun k => laws_heldIntS.l0 k (marks s n) (s + ((i + 1 : Nat) : Int)) ((i + 1 : Nat) : Int)) (fun k => ?_) (held_l n s hs hl d (i + 1) (by omega))
    have e : rd (marks s n) (i : Int) = s + (i : Int) := by
      rw [rd_at _ i (by rw [marks_len]; omega)]
      have := marks_get s n i (by omega)
      rw [List.getElem?_eq_getElem (by rw [marks_len]; omega)] at this
      exact Option.some.inj this
    rw [laws_heldIntS.l0, if_pos (by rw [marks_len]; omega), if_pos (by omega), if_pos e, wsm (i := s + (i : Int) + 1) (by omega) (by omega), wsm (i := (i : Int) + 1) (by omega) (by omega)]
    rw [show s + (i : Int) + 1 = s + ((i + 1 : Nat) : Int) by omega]
    rfl
theorem held_ev (n : Nat) (s : Int) (hs : 0 ≤ s ∧ s ≤ 1000000000) (hl : n ≤ 1000000000) : Ev (fun k => laws_heldIntS.f k (marks s n) s) (s + (n : Int)) := by
  unfold laws_heldIntS.f
  simpa using held_l n s hs hl n 0 (by omega)

end Go.Proofs.Ytdgopdbmbaiddaa.PA
namespace Go.Proofs.Ytdgopdbmbaiddaa.PA
open Go.RowKit Go.Proofs.YtdgopdbmbaiddaaW.PrintWords Go.Proofs.YtdgopdbmbaiddaaW.PrintLast Go.Proofs.YtdgopdbmbaiddaaW.PrintMore
set_option linter.unusedVariables false
set_option linter.unusedSimpArgs false

theorem FnExactCubeLine_ev (p : Int) (n : Int) : Ev (fun k => laws_FnExactCubeLine.f k p n) true := by
  unfold laws_FnExactCubeLine.f
  have hr := clP_len p n
  have hi := iCubeLine_ev p n
  have hs := sCubeLine_ev p n
  generalize clP p n = t at *
  obtain ⟨t, ok⟩ := t
  simp only at hr
  refine Ev.bind hs (Ev.bind hi (Ev.bind (eqIntS_ev t t (by omega)) ?_))
  rw [decide_eq_true rfl]
  refine Ev.yes rfl ?_
  simp only [bne_self_eq_false]
  refine Ev.step (fun k => by rw [laws_FnExactCubeLine.j0, if_neg (by simp)]) ?_
  refine Ev.bind (mark_ev t 1 (by omega) (by omega)) (Ev.bind (held_ev t.length 1 (by omega) (by omega)) (Ev.no (by omega) (Ev.yes rfl ?_)))
  refine Ev.bind hi (Ev.bind (eqIntS_ev t t (by omega)) ?_)
  rw [decide_eq_true rfl]
  refine Ev.yes rfl (Ev.step (fun k => by rw [laws_FnExactCubeLine.j1, if_neg (by simp)]) ?_)
  exact Ev.bind (held_ev t.length 1 (by omega) (by omega)) (Ev.no (by omega) (Ev.yes rfl (Ev.now _)))

end Go.Proofs.Ytdgopdbmbaiddaa.PA

namespace Go.Proofs.Ytdgopdbmbaiddaa.Pure
open Go.RowKit Go.Proofs.Ytdgopdbmbaiddaa.PA Go.Proofs.YtdgopdbmbaiddaaW.PrintWords Go.Proofs.YtdgopdbmbaiddaaW.PrintLast
theorem FnExactCubeLine : laws_FnExactCubeLine.Pure := by
  intro p n
  intros
  first | exact (FnExactCubeLine_ev p n).rounds | exact (FnExactCubeLine_ev p n (by assumption)).rounds
end Go.Proofs.Ytdgopdbmbaiddaa.Pure
