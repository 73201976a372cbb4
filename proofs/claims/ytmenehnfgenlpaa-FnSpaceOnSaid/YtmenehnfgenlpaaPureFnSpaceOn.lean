/- For every code: the drawn place is on the drawn line just when the reference says so; then it is the line's second row, or these two make the line. No conditions. -/
import Derived.Test.YtmenehnfgenlpaaWMore
import Derived.Test.YtmenehnfgenlpaaPAx1
import Derived.Test.YtmenehnfgenlpaaPAx2
import Derived.Test.YtmenehnfgenlpaaPAx4
import Derived.Test.YtmenehnfgenlpaaPAx5
import Derived.Test.YtmenehnfgenlpaaPAx9
import Derived.Test.YtmenehnfgenlpaaPAx7
import Derived.Test.YtmenehnfgenlpaaPAx8
import Derived.Test.YtmenehnfgenlpaaPAx0
import Derived.Test.YtmenehnfgenlpaaPAx3
import Derived.Test.YtmenehnfgenlpaaPAx10
import Derived.Test.YtmenehnfgenlpaaPAx13
import Derived.Test.YtmenehnfgenlpaaPAx6
import Derived.Test.YtmenehnfgenlpaaPAx12
import Derived.Test.YtmenehnfgenlpaaPAx11
namespace Go.Proofs.Ytmenehnfgenlpaa.PA
open Go.RowKit Go.Proofs.YtmenehnfgenlpaaW.PrintWords Go.Proofs.YtmenehnfgenlpaaW.PrintLast Go.Proofs.YtmenehnfgenlpaaW.PrintMore
set_option linter.unusedVariables false
set_option linter.unusedSimpArgs false
theorem wsm {i : Int} (h0 : -1000000000000000000 ≤ i) (h : i ≤ 1000000000000000000) : wrap64 i = i := by unfold wrap64; omega
theorem Ev.k {α : Type} {x : Option α} {r : α} (h : x = some r) : Ev (fun _ => x) r := ⟨0, fun _ _ => h⟩
theorem Ev.ite {α : Type} {c : Prop} [Decidable c] {g f : Nat → Option α} {r : α} (h1 : c → Ev g r) (h2 : ¬ c → Ev f r) : Ev (fun k => if c then g k else f k) r := by
  by_cases h : c
  · exact (h1 h).congr (fun k => if_pos h)
  · exact (h2 h).congr (fun k => if_neg h)
theorem Ev.yes {α : Type} {c : Prop} [Decidable c] {g f : Nat → Option α} {r : α} (h : c) (h1 : Ev g r) : Ev (fun k => if c then g k else f k) r := h1.congr (fun k => if_pos h)
theorem Ev.no {α : Type} {c : Prop} [Decidable c] {g f : Nat → Option α} {r : α} (h : ¬ c) (h1 : Ev f r) : Ev (fun k => if c then g k else f k) r := h1.congr (fun k => if_neg h)
theorem Qd (l : List Int) (j : Nat) (h : j < l.length) : rd l (j : Int) = l[j] := by simp [rd, List.getD_eq_getElem?_getD, h]
theorem Qm (l : List Int) (j : Nat) (h : j < l.length) : l.drop j = rd l (j : Int) :: l.drop (j + 1) := by rw [Qd l j h, List.drop_eq_getElem_cons h]
def bytesOk (b : List Int) : Prop := b.length ≤ 2000 ∧ ∀ x ∈ b, 0 ≤ x ∧ x ≤ 255
theorem Yi {x : Int} (h : (Lit.int .u8 x).wf = true) : 0 ≤ x ∧ x ≤ 255 := by
  simp [Lit.wf, IntKind.min, IntKind.max, IntKind.signed, IntKind.bits] at h
  omega
theorem Ut (l : List Int) (h : ∀ x ∈ l, (Lit.int .u8 x).wf = true) : ∃ b, spec_l6Open.f l = some (b, 0) ∧ bytesOk b := by
  unfold spec_l6Open.f
  by_cases hl : (l.length : Int) > 2000
  · rw [if_pos hl, if_pos (by omega)]
    exact ⟨_, rfl, by simp; omega, fun x hx => Yi (h x (List.mem_of_mem_take hx))⟩
  · rw [if_neg hl]
    exact ⟨_, rfl, by omega, fun x hx => Yi (h x hx)⟩
theorem Uu (x y : Int) (hx : 0 ≤ x) (hy : 0 ≤ y) (hx2 : x < 2 ^ 40) (hy2 : y < 2 ^ 40) : 0 ≤ Go.bits .xor .i64 x y := by
  obtain ⟨a, rfl⟩ := Int.eq_ofNat_of_zero_le hx
  obtain ⟨b, rfl⟩ := Int.eq_ofNat_of_zero_le hy
  have ha : a < 2 ^ 40 := by omega
  have hb : b < 2 ^ 40 := by omega
  have hc := Nat.xor_lt_two_pow ha hb
  have e : (BitVec.ofInt 64 (a : Int) ^^^ BitVec.ofInt 64 (b : Int)).toNat = a ^^^ b := by
    rw [BitVec.toNat_xor, BitVec.ofInt_natCast, BitVec.ofInt_natCast, BitVec.toNat_ofNat, BitVec.toNat_ofNat, Nat.mod_eq_of_lt (by omega), Nat.mod_eq_of_lt (by omega)]
  show 0 ≤ IntKind.wrap .i64 (((BitVec.ofInt 64 (a : Int) ^^^ BitVec.ofInt 64 (b : Int)).toNat : Nat) : Int)
  rw [e]
  generalize a ^^^ b = c at hc
  have hm : ((c : Int)) % (2 ^ 64 : Int) = c := by omega
  simp only [IntKind.wrap, IntKind.bits, IntKind.signed, hm]
  rw [if_neg (by simp; omega)]
  omega
theorem Vi {b : List Int} (h : bytesOk b) (i : Int) : 0 ≤ rd b i ∧ rd b i ≤ 255 := by
  unfold rd
  rw [List.getD_eq_getElem?_getD]
  cases hi : b[i.toNat]? with
  | none => simp
  | some x => exact h.2 x (List.mem_of_getElem? hi)
theorem Qi (b : List Int) (h : bytesOk b) (p n : Int) (hp : 0 ≤ p) (hp2 : p ≤ 1000000) : ∃ v, Ev (fun k => spec_l6Rd_pick.f k b p n) (v, p + 1) ∧ 0 ≤ v ∧ (1 ≤ n → v < n) := by
  have w1 : wrap64 (p + 1) = p + 1 := wsm (by omega) (by omega)
  have w2 : wrap64 (p + 1 - 1) = p := by rw [wsm (by omega) (by omega)]; omega
  unfold spec_l6Rd_pick.f
  by_cases hn : n < 1
  · refine ⟨0, Ev.yes hn ?_, by omega, by omega⟩
    refine Ev.step (f := fun _ => some (0, p + 1)) (fun k => ?_) (Ev.now _)
    rw [spec_l6Rd_pick.j0, if_pos rfl, w1]
  · by_cases hb : b.length = 0
    · refine ⟨0, Ev.no hn ?_, by omega, by omega⟩
      refine Ev.step (f := fun _ => some (0, p + 1)) (fun k => ?_) (Ev.now _)
      rw [spec_l6Rd_pick.j0, if_pos (by simp [hb]), w1]
    · have hbf : ¬ ((b.length : Int) == 0) = true := by simp; intro e; simp [e] at hb
      have hb0 : ¬ (b.length : Int) = 0 := by omega
      by_cases hlt : p < (b.length : Int)
      · have hr := Vi h p
        refine ⟨Int.tmod (rd b p) n, Ev.no hn ?_, Int.tmod_nonneg _ hr.1, fun _ => Int.tmod_lt_of_pos _ (by omega)⟩
        refine Ev.step (f := fun _ => some (Int.tmod (rd b p) n, p + 1)) (fun k => ?_) (Ev.now _)
        rw [spec_l6Rd_pick.j0, if_neg hbf, w1, w2, if_pos hlt, if_pos hp, if_neg (by omega), wsm (by omega) (by omega)]
      · have hlp : 0 < (b.length : Int) := by omega
        have hi1 := Int.tmod_nonneg (b.length : Int) hp
        have hi2 := Int.tmod_lt_of_pos p hlp
        have w3 : wrap64 (wrap64 (p * 7) + 3) = p * 7 + 3 := by rw [wsm (i := p * 7) (by omega) (by omega), wsm (by omega) (by omega)]
        have hj1 := Int.tmod_nonneg (b.length : Int) (a := p * 7 + 3) (by omega)
        have hj2 := Int.tmod_lt_of_pos (p * 7 + 3) hlp
        have r1 := Vi h (Int.tmod p (b.length : Int))
        have r2 := Vi h (Int.tmod (p * 7 + 3) (b.length : Int))
        have hq0 : 0 ≤ Int.tdiv p (b.length : Int) := Int.tdiv_nonneg hp (by omega)
        have hq1 : Int.tdiv p (b.length : Int) ≤ p := by rw [Int.tdiv_eq_ediv_of_nonneg hp]; exact Int.ediv_le_self _ hp
        have e := @spec_l6Rd_pick.j0.eq_2
        generalize hx : wrap64 (wrap64 (wrap64 (wrap64 (wrap64 (rd b (Int.tmod p (b.length : Int))) * 131) + wrap64 (wrap64 (rd b (Int.tmod (p * 7 + 3) (b.length : Int))) * 1117)) + wrap64 (p * 29)) + wrap64 (wrap64 (Int.tdiv p (b.length : Int)) * 53)) = X
        have hX : 0 ≤ X ∧ X < 2 ^ 40 := by
          rw [← hx]
          generalize rd b (Int.tmod p (b.length : Int)) = y1 at r1
          generalize rd b (Int.tmod (p * 7 + 3) (b.length : Int)) = y2 at r2
          generalize Int.tdiv p (b.length : Int) = y3 at hq0 hq1
          rw [wsm (i := y1) (by omega) (by omega), wsm (i := y2) (by omega) (by omega), wsm (i := y3) (by omega) (by omega), wsm (i := y1 * 131) (by omega) (by omega), wsm (i := y2 * 1117) (by omega) (by omega), wsm (i := y3 * 53) (by omega) (by omega), wsm (i := p * 29) (by omega) (by omega), wsm (i := y1 * 131 + y2 * 1117) (by omega) (by omega), wsm (i := y1 * 131 + y2 * 1117 + p * 29) (by omega) (by omega), wsm (by omega) (by omega)]
          omega
        have hd : 0 ≤ Int.tdiv X 64 ∧ Int.tdiv X 64 ≤ X := by rw [Int.tdiv_eq_ediv_of_nonneg hX.1]; omega
        have hxor := Uu X (wrap64 (Int.tdiv X 64)) hX.1 (by rw [wsm (by omega) (by omega)]; omega) hX.2 (by rw [wsm (by omega) (by omega)]; omega)
        refine ⟨Int.tmod (Go.bits .xor .i64 X (wrap64 (Int.tdiv X 64))) n, Ev.no hn ?_, Int.tmod_nonneg _ hxor, fun _ => Int.tmod_lt_of_pos _ (by omega)⟩
        refine Ev.step (f := fun _ => some (Int.tmod (Go.bits .xor .i64 X (wrap64 (Int.tdiv X 64))) n, p + 1)) (fun k => ?_) (Ev.now _)
        rw [spec_l6Rd_pick.j0, if_neg hbf, w1, w2, if_neg hlt, if_neg hb0, if_pos hi1, if_pos hi2, w3, if_pos hj1, if_pos hj2, if_neg (by omega), hx]
theorem Uv (b : List Int) (h : bytesOk b) (p : Int) (hp : 0 ≤ p) (hp2 : p ≤ 1000000) : ∃ v, Ev (fun k => spec_l92Prime.f k b p) (v, p + 1) ∧ (v = 7 ∨ v = 11 ∨ v = 13 ∨ v = 17 ∨ v = 19 ∨ v = 23 ∨ v = 29 ∨ v = 31 ∨ v = 9 ∨ v = 5) := by
  obtain ⟨v, hv, h0, h1⟩ := Qi b h p 13 hp hp2
  have h2 := h1 (by omega)
  refine ⟨rd ([7, 11, 13, 17, 19, 23, 29, 31, 13, 19, 31, 9, 5] : List Int) v, ?_, ?_⟩
  · unfold spec_l92Prime.f
    refine Ev.bind (Ev.now _) (Ev.bind hv ?_)
    exact Ev.yes h0 (Ev.yes (by simpa using h2) (Ev.now _))
  · have : v = 0 ∨ v = 1 ∨ v = 2 ∨ v = 3 ∨ v = 4 ∨ v = 5 ∨ v = 6 ∨ v = 7 ∨ v = 8 ∨ v = 9 ∨ v = 10 ∨ v = 11 ∨ v = 12 := by omega
    rcases this with rfl | rfl | rfl | rfl | rfl | rfl | rfl | rfl | rfl | rfl | rfl | rfl | rfl <;> simp [rd]
theorem Yj (p x : Int) (hp : 1 ≤ p ∧ p ≤ 40) : ∀ (d : Nat) (i : Int), 0 ≤ i → i + d = p → ∃ r, Ev (fun k => spec_l4Turned.l0 k p x i) r ∧ 0 ≤ r ∧ r < p
  | 0, i, h0, h => by
    refine ⟨0, Ev.step (f := fun _ => some 0) (fun k => ?_) (Ev.now _), by omega, by omega⟩
    rw [spec_l4Turned.l0, if_neg (by omega)]
  | d + 1, i, h0, h => by
    by_cases hc : (Int.tmod (wrap64 (i * x)) p) = 1
    · refine ⟨i, Ev.step (f := fun _ => some i) (fun k => ?_) (Ev.now _), by omega, by omega⟩
      rw [spec_l4Turned.l0, if_pos (by omega), if_neg (by omega), if_pos hc]
    · obtain ⟨r, hr, h1, h2⟩ := Yj p x hp d (i + 1) (by omega) (by omega)
      refine ⟨r, Ev.step (f := fun k => spec_l4Turned.l0 k p x (i + 1)) (fun k => ?_) hr, h1, h2⟩
      rw [spec_l4Turned.l0, if_pos (by omega), if_neg (by omega), if_neg hc, wsm (by omega) (by omega)]
theorem Vj (p : Int) (hp : 1 ≤ p ∧ p ≤ 40) (l : List Int) (hl : l.length ≤ 1000) : ∀ (d i : Nat) (acc : List Int) (n : Int), i + d = l.length → acc.length = i → ∃ r, Ev (fun k => spec_l4Row.l0 k p l acc n (i : Int)) r ∧ r.length = l.length
  | 0, i, acc, n, h, ha => by
    refine ⟨acc, Ev.step (f := fun _ => some acc) (fun k => ?_) (Ev.now _), by omega⟩
    rw [spec_l4Row.l0, if_neg (by omega)]
  | d + 1, i, acc, n, h, ha => by
    by_cases h0 : n = 0
    · obtain ⟨t, ht, _, _⟩ := Yj p (rd l (i : Int)) hp (p - 1).toNat 1 (by omega) (by omega)
      obtain ⟨r, hr, hrl⟩ := Vj p hp l hl d (i + 1) (acc ++ [Int.tmod (wrap64 ((rd l (i : Int)) * t)) p]) t (by omega) (by simp [ha])
      refine ⟨r, Ev.step (f := fun k => (spec_l4Turned.f k p (rd l (i : Int))).bind fun t => spec_l4Row.l0 k p l (acc ++ [Int.tmod (wrap64 ((rd l (i : Int)) * t)) p]) t ((i + 1 : Nat) : Int)) (fun k => ?_) (Ev.bind ht hr), hrl⟩
      rw [spec_l4Row.l0, if_pos (by omega), if_pos h0, if_pos (by omega)]
      congr 1
      funext t
      rw [if_neg (by omega), if_pos (by omega), wsm (i := (i : Int) + 1) (by omega) (by omega)]
      rfl
    · obtain ⟨r, hr, hrl⟩ := Vj p hp l hl d (i + 1) (acc ++ [Int.tmod (wrap64 ((rd l (i : Int)) * n)) p]) n (by omega) (by simp [ha])
      refine ⟨r, Ev.step (f := fun k => spec_l4Row.l0 k p l (acc ++ [Int.tmod (wrap64 ((rd l (i : Int)) * n)) p]) n ((i + 1 : Nat) : Int)) (fun k => ?_) hr, hrl⟩
      rw [spec_l4Row.l0, if_pos (by omega), if_neg h0, if_pos (by omega), if_neg (by omega), if_pos (by omega), wsm (i := (i : Int) + 1) (by omega) (by omega)]
      rfl
theorem Yk (p : Int) (hp : 1 ≤ p ∧ p ≤ 40) (l : List Int) (hl : l.length ≤ 1000) : ∃ r, Ev (fun k => spec_l4Row.f k p l) r ∧ r.length = l.length := by
  unfold spec_l4Row.f
  exact Vj p hp l hl l.length 0 [] 0 (by omega) rfl
theorem Yl (l : List Int) (hl : l.length ≤ 1000000) : ∀ (d i : Nat), i + d = l.length → Ev (fun k => spec_l4Zero.l0 k l (i : Int)) ((l.drop i).all fun x => x == 0)
  | 0, i, h => by
    refine Ev.step (f := fun _ => some true) (fun k => ?_) ?_
    · rw [spec_l4Zero.l0, if_neg (by omega)]
    · rw [List.drop_eq_nil_of_le (by omega)]; exact Ev.now _
  | d + 1, i, h => by
    have ih := Yl l hl d (i + 1) (by omega)
    rw [Qm l i (by omega), List.all_cons]
    by_cases hz : rd l (i : Int) = 0
    · refine Ev.step (f := fun k => spec_l4Zero.l0 k l ((i + 1 : Nat) : Int)) (fun k => ?_) ?_
      · rw [spec_l4Zero.l0, if_pos (by omega), if_pos (by omega), if_pos hz, wsm (by omega) (by omega)]; rfl
      · simpa [hz] using ih
    · refine Ev.step (f := fun _ => some false) (fun k => ?_) ?_
      · rw [spec_l4Zero.l0, if_pos (by omega), if_pos (by omega), if_neg hz]
      · rw [show (rd l (i : Int) == 0) = false from beq_eq_false_iff_ne.2 hz]
        exact Ev.now false
theorem Ym (l : List Int) (hl : l.length ≤ 1000000) : Ev (fun k => spec_l4Zero.f k l) (l.all fun x => x == 0) := by
  unfold spec_l4Zero.f
  simpa using Yl l hl l.length 0 (by omega)
theorem Vk (b : List Int) (hb : bytesOk b) (p s : Int) (hp : 1 ≤ p ∧ p ≤ 31) (h0 : 0 ≤ s) (h1 : s ≤ 900000) : ∃ a s', Ev (fun k => spec_l92Place.f k b s p) (a, s') ∧ a.length ≤ 5 ∧ s ≤ s' ∧ s' ≤ s + 50 := by
  obtain ⟨v1, e1, _, _⟩ := Qi b hb s 2 h0 (by omega)
  obtain ⟨v2, e2, _, _⟩ := Qi b hb (s + 1) p (by omega) (by omega)
  obtain ⟨v3, e3, _, _⟩ := Qi b hb (s + 1 + 1) p (by omega) (by omega)
  obtain ⟨v4, e4, _, _⟩ := Qi b hb (s + 1 + 1 + 1) p (by omega) (by omega)
  obtain ⟨r, er, hr⟩ := Yk p (by omega) [v1, v2, v3, v4] (by simp)
  have ez := Ym r (by rw [hr]; simp)
  simp only [List.length_cons, List.length_nil] at hr
  unfold spec_l92Place.f
  cases hz : (r.all fun x => x == 0)
  · obtain ⟨v5, e5, _, _⟩ := Qi b hb (s + 1 + 1 + 1 + 1) 24 (by omega) (by omega)
    rw [hz] at ez
    by_cases h5 : v5 = 0
    · refine ⟨r ++ [0], s + 1 + 1 + 1 + 1 + 1, Ev.bind e1 (Ev.bind e2 (Ev.bind e3 (Ev.bind e4 (Ev.bind er (Ev.bind ez (Ev.no (by simp) (Ev.bind e5 (Ev.yes h5 (Ev.yes (by omega) (Ev.now _)))))))))), by simp [hr], by omega, by omega⟩
    · refine ⟨r, s + 1 + 1 + 1 + 1 + 1, Ev.bind e1 (Ev.bind e2 (Ev.bind e3 (Ev.bind e4 (Ev.bind er (Ev.bind ez (Ev.no (by simp) (Ev.bind e5 (Ev.no h5 (Ev.now _))))))))), by simp [hr], by omega, by omega⟩
  · obtain ⟨v5, e5, _, _⟩ := Qi b hb (s + 1 + 1 + 1 + 1) p (by omega) (by omega)
    rw [hz] at ez
    exact ⟨[0, 0, 1, v5], s + 1 + 1 + 1 + 1 + 1, Ev.bind e1 (Ev.bind e2 (Ev.bind e3 (Ev.bind e4 (Ev.bind er (Ev.bind ez (Ev.yes rfl (Ev.bind e5 (Ev.now _)))))))), by simp, by omega, by omega⟩
def rootsT (p : Int) : List Int := if p = 7 then [3, 5, 6] else if p = 13 then [4, 10, 12] else if p = 19 then [8, 12, 18] else if p = 31 then [6, 26, 30] else []
theorem Uw {p : Int} (h : primeB p = false) : rootsT p = [] := by
  have : ¬ (p = 7 ∨ p = 11 ∨ p = 13 ∨ p = 17 ∨ p = 19 ∨ p = 23 ∨ p = 29 ∨ p = 31) := of_decide_eq_false h
  unfold rootsT
  rw [if_neg (by omega), if_neg (by omega), if_neg (by omega), if_neg (by omega)]
theorem Yn (p : Int) : rootsT p = [] ∨ (p = 7 ∨ p = 13 ∨ p = 19 ∨ p = 31) := by
  unfold rootsT
  by_cases h1 : p = 7
  · exact .inr (.inl h1)
  by_cases h2 : p = 13
  · exact .inr (.inr (.inl h2))
  by_cases h3 : p = 19
  · exact .inr (.inr (.inr (.inl h3)))
  by_cases h4 : p = 31
  · exact .inr (.inr (.inr (.inr h4)))
  · rw [if_neg h1, if_neg h2, if_neg h3, if_neg h4]; exact .inl rfl
theorem Vl (p : Int) : spec_PrimeIn.f p = some (primeB p) := by
  unfold spec_PrimeIn.f primeB
  repeat' split
  all_goals first | (subst_vars; rfl) | (congr 1; symm; rw [decide_eq_true_iff]; omega) | (congr 1; symm; rw [decide_eq_false_iff_not]; omega)
theorem Vb {p : Int} (h : primeB p = true) : p = 7 ∨ p = 11 ∨ p = 13 ∨ p = 17 ∨ p = 19 ∨ p = 23 ∨ p = 29 ∨ p = 31 := of_decide_eq_true h
def numsB (p : Int) (l : List Int) (n : Nat) : Bool := primeB p && decide (l.length = n) && l.all fun x => decide (0 ≤ x) && decide (x < p)
theorem Yo (p : Int) (l : List Int) (n : Nat) : impl_areNumbers.f p l (n : Int) = some (numsB p l n) := by
  unfold impl_areNumbers.f numsB
  congr 3
  rw [Bool.eq_iff_iff, decide_eq_true_iff, decide_eq_true_iff]
  omega
theorem Qb {p : Int} {l : List Int} {n : Nat} (h : numsB p l n = true) : primeB p = true ∧ l.length = n ∧ ∀ x ∈ l, 0 ≤ x ∧ x < p := by
  unfold numsB at h
  rw [Bool.and_eq_true, Bool.and_eq_true] at h
  refine ⟨h.1.1, of_decide_eq_true h.1.2, fun x hx => ?_⟩
  have := List.all_eq_true.1 h.2 x hx
  rw [Bool.and_eq_true] at this
  exact ⟨of_decide_eq_true this.1, of_decide_eq_true this.2⟩
theorem Vc {p : Int} {l : List Int} {n : Nat} (h1 : primeB p = true) (h2 : l.length = n) (h3 : ∀ x ∈ l, 0 ≤ x ∧ x < p) : numsB p l n = true := by
  unfold numsB
  rw [h1, decide_eq_true h2, Bool.true_and, Bool.true_and, List.all_eq_true]
  intro x hx
  rw [decide_eq_true (h3 x hx).1, decide_eq_true (h3 x hx).2]; rfl
theorem Qa {p : Int} (h : primeB p = true) : 7 ≤ p ∧ p ≤ 31 := by have := Vb h; omega
def invP (p x : Int) : Int := (spec_l4Turned.f 40 p x).getD 0
theorem Ux : ∀ p ∈ ([7, 11, 13, 17, 19, 23, 29, 31] : List Int), ∀ x ∈ List.range 31, (x : Int) < p → spec_l4Turned.f 40 p (x : Int) = some (invP p (x : Int)) ∧ 0 ≤ invP p (x : Int) ∧ invP p (x : Int) < p ∧ ((x : Int) ≠ 0 → ((x : Int) * invP p (x : Int)) % p = 1) ∧ ((x : Int) = 0 → invP p (x : Int) = 0) := by decide +kernel
theorem Qo {p : Int} (hp : primeB p = true) {x : Int} (h0 : 0 ≤ x) (h1 : x < p) : spec_l4Turned.f 40 p x = some (invP p x) ∧ 0 ≤ invP p x ∧ invP p x < p ∧ (x ≠ 0 → (x * invP p x) % p = 1) ∧ (x = 0 → invP p x = 0) := by
  obtain ⟨y, rfl⟩ := Int.eq_ofNat_of_zero_le h0
  have hb := Qa hp
  refine Ux p ?_ y (List.mem_range.2 (by omega)) h1
  have := Vb hp
  simpa using this
theorem Uy {p : Int} (hp : primeB p = true) {x : Int} (h0 : 0 ≤ x) (h1 : x < p) : Ev (fun k => spec_l4Turned.f k p x) (invP p x) := Ev.of (spec_l4Turned.mono p x) (Qo hp h0 h1).1
theorem Uz {p : Int} (hp : primeB p = true) : invP p 1 = 1 := by
  have hb := Qa hp
  obtain ⟨_, h2, h3, h4, _⟩ := Qo hp (x := 1) (by omega) (by omega)
  have := h4 (by omega)
  rw [Int.one_mul, Int.emod_eq_of_lt h2 h3] at this
  exact this
theorem Ka {p : Int} (hp : primeB p = true) {x : Int} (h0 : 0 ≤ x) (h1 : x < p) (hx : x ≠ 0) : invP p x ≠ 0 := by
  intro e
  have := (Qo hp h0 h1).2.2.2.1 hx
  rw [e] at this
  simp at this
def lessP (p t : Int) (h r : List Int) : List Int := List.zipWith (fun x y => (x - t * y) % p) r h
def scaleP (p b : Int) (r : List Int) : List Int := r.map fun x => x * b % p
def redP (p : Int) : Nat → Nat → List (List Int) → List (List Int) → List (List Int)
  | 0, _, _, O => O
  | d + 1, c, L, O =>
    match L.findIdx? (fun row => rd row (c : Int) != 0) with
    | none => redP p d (c + 1) L O
    | some i => redP p d (c + 1) ((L.eraseIdx i).map fun r => lessP p (rd r (c : Int)) (scaleP p (invP p (rd (L.getD i []) (c : Int))) (L.getD i [])) r) ((O.map fun r => lessP p (rd r (c : Int)) (scaleP p (invP p (rd (L.getD i []) (c : Int))) (L.getD i [])) r) ++ [scaleP p (invP p (rd (L.getD i []) (c : Int))) (L.getD i [])])
def headsP (p : Int) : Nat → Nat → List (List Int) → List Int → List Int
  | 0, _, _, H => H
  | d + 1, c, L, H =>
    match L.findIdx? (fun row => rd row (c : Int) != 0) with
    | none => headsP p d (c + 1) L H
    | some i => headsP p d (c + 1) ((L.eraseIdx i).map fun r => lessP p (rd r (c : Int)) (scaleP p (invP p (rd (L.getD i []) (c : Int))) (L.getD i [])) r) (H ++ [(c : Int)])
def okR (p : Int) (w : Nat) (L : List (List Int)) : Prop := ∀ r ∈ L, r.length = w ∧ ∀ x ∈ r, 0 ≤ x ∧ x < p
theorem Qc (p : Int) (w : Nat) : okR p w [] := fun _ h => absurd h (by simp)
theorem Qf {p : Int} {w : Nat} {r : List Int} {L : List (List Int)} (h1 : r.length = w ∧ ∀ x ∈ r, 0 ≤ x ∧ x < p) (h2 : okR p w L) : okR p w (r :: L) := fun x hx => by
  rcases List.mem_cons.1 hx with rfl | hx
  · exact h1
  · exact h2 x hx
theorem Vd {p : Int} {w : Nat} {L M : List (List Int)} (h1 : okR p w L) (h2 : okR p w M) : okR p w (L ++ M) := fun x hx => by
  rcases List.mem_append.1 hx with hx | hx
  · exact h1 x hx
  · exact h2 x hx
theorem Ve {p t : Int} {w : Nat} {h r : List Int} (hp : 0 < p) (hh : h.length = w) (hr : r.length = w) : (lessP p t h r).length = w ∧ ∀ x ∈ lessP p t h r, 0 ≤ x ∧ x < p := by
  refine ⟨by simp [lessP, hh, hr], fun x hx => ?_⟩
  rw [lessP, List.mem_iff_getElem] at hx
  obtain ⟨i, hi, rfl⟩ := hx
  rw [List.getElem_zipWith]
  exact ⟨Int.emod_nonneg _ (by omega), Int.emod_lt_of_pos _ hp⟩
theorem Qv {p b : Int} {w : Nat} {r : List Int} (hp : 0 < p) (hr : r.length = w) : (scaleP p b r).length = w ∧ ∀ x ∈ scaleP p b r, 0 ≤ x ∧ x < p := by
  refine ⟨by simp [scaleP, hr], fun x hx => ?_⟩
  obtain ⟨y, _, rfl⟩ := List.mem_map.1 hx
  exact ⟨Int.emod_nonneg _ (by omega), Int.emod_lt_of_pos _ hp⟩
theorem Qe {L : List (List Int)} {i : Nat} (h : i < L.length) : L.getD i [] ∈ L := by
  rw [List.getD_eq_getElem?_getD, List.getElem?_eq_getElem h]; exact List.getElem_mem h
theorem Qr {p : Int} {w : Nat} {L : List (List Int)} {h : List Int} (t : List Int → Int) (hp : 0 < p) (hh : h.length = w) (hL : okR p w L) : okR p w (L.map fun r => lessP p (t r) h r) := fun x hx => by
  obtain ⟨r, hr, rfl⟩ := List.mem_map.1 hx
  exact Ve hp hh (hL r hr).1
theorem Qw {p : Int} {w : Nat} {L : List (List Int)} (i : Nat) (hL : okR p w L) : okR p w (L.eraseIdx i) := fun r hr => hL r (List.mem_of_mem_eraseIdx hr)
theorem Qt {L : List (List Int)} {P : List Int → Bool} {i : Nat} (h : L.findIdx? P = some i) : i < L.length ∧ P (L.getD i []) = true := by
  rw [List.findIdx?_eq_some_iff_getElem] at h
  obtain ⟨hi, hp, _⟩ := h
  exact ⟨hi, by rw [List.getD_eq_getElem?_getD, List.getElem?_eq_getElem hi]; exact hp⟩
theorem Qp {p : Int} {w : Nat} {r : List Int} (h : r.length = w ∧ ∀ x ∈ r, 0 ≤ x ∧ x < p) (j : Nat) (hj : j < w) : 0 ≤ rd r (j : Int) ∧ rd r (j : Int) < p := by
  rw [Qd r j (by omega)]; exact h.2 _ (List.getElem_mem _)
theorem Vm {p t : Int} {h r : List Int} (j : Nat) (h1 : j < r.length) (h2 : j < h.length) : rd (lessP p t h r) (j : Int) = (rd r (j : Int) - t * rd h (j : Int)) % p := by
  rw [Qd _ j (by simp [lessP]; omega), Qd _ j h1, Qd _ j h2]; simp [lessP]
theorem Yp {p b : Int} {r : List Int} (j : Nat) (h1 : j < r.length) : rd (scaleP p b r) (j : Int) = rd r (j : Int) * b % p := by
  rw [Qd _ j (by simp [scaleP]; omega), Qd _ j h1]; simp [scaleP]
theorem Qx (p : Int) : ∀ (d c : Nat) (L O : List (List Int)), (redP p d c L O).length ≤ L.length + O.length
  | 0, _, L, O => by rw [redP]; omega
  | d + 1, c, L, O => by
    rw [redP]
    split
    · exact Qx p d (c + 1) L O
    · next i hf =>
      have hi := (Qt hf).1
      refine Nat.le_trans (Qx p d (c + 1) _ _) ?_
      simp [List.length_eraseIdx, hi]
      omega
theorem Qq {p : Int} (hp : 0 < p) {w : Nat} : ∀ (d c : Nat) (L O : List (List Int)), okR p w L → okR p w O → okR p w (redP p d c L O)
  | 0, _, L, O, _, hO => by rw [redP]; exact hO
  | d + 1, c, L, O, hL, hO => by
    rw [redP]
    split
    · exact Qq hp d (c + 1) L O hL hO
    · next i hf =>
      have hi := (Qt hf).1
      have hs := Qv (p := p) (b := invP p (rd (L.getD i []) (c : Int))) hp (hL _ (Qe hi)).1
      exact Qq hp d (c + 1) _ _ (Qr _ hp hs.1 (Qw i hL)) (Vd (Qr _ hp hs.1 hO) (Qf hs (Qc p w)))
def spanP (p : Int) (w : Nat) (L : List (List Int)) : List Int := (redP p w 0 L []).flatten
def rankP (p : Int) (w : Nat) (L : List (List Int)) : Nat := (redP p w 0 L []).length
theorem Vn {w : Nat} : ∀ (M : List (List Int)), (∀ r ∈ M, r.length = w) → M.flatten.length = M.length * w
  | [], _ => by simp
  | r :: M, h => by
    rw [List.flatten_cons, List.length_append, h r (by simp), Vn M (fun x hx => h x (by simp [hx])), List.length_cons, Nat.add_mul, Nat.one_mul, Nat.add_comm]
theorem Vo {p : Int} (hp : 0 < p) {w : Nat} {L : List (List Int)} (hL : okR p w L) : (spanP p w L).length = rankP p w L * w := Vn _ (fun r hr => (Qq hp w 0 L [] hL (Qc p w) r hr).1)
def lineB (p : Int) (l : List Int) : Bool := numsB p l 8 && decide (spanP p 4 [l.take 4, l.drop 4] = l)
theorem Qj {p : Int} {l : List Int} (h : numsB p l 8 = true) : okR p 4 [l.take 4, l.drop 4] := by
  obtain ⟨_, hl, hx⟩ := Qb h
  refine Qf ⟨by simp; omega, fun x hx' => hx x (List.mem_of_mem_take hx')⟩ (Qf ⟨by simp; omega, fun x hx' => hx x (List.mem_of_mem_drop hx')⟩ (Qc p 4))
theorem Qg {p : Int} {l : List Int} (h : lineB p l = true) : numsB p l 8 = true := by
  rw [lineB, Bool.and_eq_true] at h; exact h.1
theorem Vf {p : Int} {l : List Int} (h : lineB p l = true) : rankP p 4 [l.take 4, l.drop 4] = 2 := by
  have hn := Qg h
  have hb := Qa (Qb hn).1
  rw [lineB, Bool.and_eq_true] at h
  have h2 := of_decide_eq_true h.2
  have h3 := Vo (w := 4) (by omega) (Qj hn)
  rw [h2, (Qb hn).2.1] at h3
  omega
def cubeRows (p : Int) (k : Nat) : List (List Int) :=
  if k / 9 = 0 then [[(rootsT p).getD (k / 3 % 3) 0, 1, 0, 0], [0, 0, (rootsT p).getD (k % 3) 0, 1]]
  else if k / 9 = 1 then [[(rootsT p).getD (k / 3 % 3) 0, 0, 1, 0], [0, (rootsT p).getD (k % 3) 0, 0, 1]]
  else [[(rootsT p).getD (k / 3 % 3) 0, 0, 0, 1], [0, (rootsT p).getD (k % 3) 0, 1, 0]]
def lineC (p k : Int) : List Int := spanP p 4 (cubeRows p k.toNat)
theorem Kb : ∀ p ∈ ([7, 13, 19, 31] : List Int), ∀ k ∈ List.range 27, (lineC p (k : Int)).length = 8 := by decide +kernel
theorem Kc {p k : Int} (hp : p = 7 ∨ p = 13 ∨ p = 19 ∨ p = 31) (h0 : 0 ≤ k) (h1 : k < 27) : (lineC p k).length = 8 := by
  have h := Kb p (by simp; omega) k.toNat (by simp; omega)
  rwa [show ((k.toNat : Nat) : Int) = k by omega] at h
def clP (p k : Int) : List Int × Bool := if rootsT p ≠ [] ∧ 0 ≤ k ∧ k < 27 then (lineC p k, true) else ([], false)
theorem Kd (p k : Int) : (clP p k).1.length ≤ 8 := by
  unfold clP
  split
  · next h =>
    rcases Yn p with h2 | h2
    · exact absurd h2 h.1
    · exact Nat.le_of_eq (Kc h2 h.2.1 h.2.2)
  · simp
theorem Ke : ∀ p ∈ ([7, 11, 13, 17, 19, 23, 29, 31] : List Int), spec_CubeRoots.f 60 p = some (rootsT p, decide (rootsT p ≠ [])) := by decide +kernel
theorem Kf (p : Int) : Ev (fun k => spec_CubeRoots.f k p) (rootsT p, decide (rootsT p ≠ [])) := by
  cases hp : primeB p with
  | true => exact Ev.of (spec_CubeRoots.mono p) (Ke p (by have := Vb hp; simp; omega))
  | false =>
    unfold spec_CubeRoots.f
    refine Ev.bind (Ev.k (Vl p)) ?_
    rw [hp, Uw hp]
    exact Ev.no (by simp) (Ev.now _)
theorem Kg : ∀ p ∈ ([7, 13, 19, 31] : List Int), ∀ k ∈ List.range 27, spec_l8Line.f 60 p (rootsT p) (k : Int) = some (lineC p (k : Int)) := by decide +kernel
theorem Kh {p k : Int} (hp : p = 7 ∨ p = 13 ∨ p = 19 ∨ p = 31) (h0 : 0 ≤ k) (h1 : k < 27) : Ev (fun n => spec_l8Line.f n p (rootsT p) k) (lineC p k) := by
  have h := Kg p (by simp; omega) k.toNat (by simp; omega)
  rw [show ((k.toNat : Nat) : Int) = k by omega] at h
  exact Ev.of (spec_l8Line.mono _ _ _) h
theorem Ki (p k : Int) : Ev (fun n => spec_CubeLine.f n p k) (clP p k) := by
  unfold spec_CubeLine.f clP
  refine Ev.bind (Kf p) ?_
  rcases Yn p with h | h
  · rw [h, if_neg (by simp)]; exact Ev.no (by simp) (Ev.now _)
  · have hl : (rootsT p).length = 3 := by rcases h with rfl | rfl | rfl | rfl <;> rfl
    have hne : rootsT p ≠ [] := by intro e; rw [e] at hl; simp at hl
    refine Ev.yes (by simp [hne]) ?_
    by_cases h0 : 0 ≤ k
    · refine Ev.bind (a := decide (k ≤ 26)) (Ev.k (by unfold spec_l6In.f; rw [if_pos (by omega)])) ?_
      by_cases h1 : k < 27
      · rw [if_pos ⟨hne, h0, h1⟩, decide_eq_true (show k ≤ 26 by omega)]
        exact Ev.yes rfl (Ev.bind (Kh h h0 h1) (Ev.now _))
      · rw [if_neg (fun e => h1 e.2.2), decide_eq_false (show ¬ k ≤ 26 by omega)]
        exact Ev.no (by simp) (Ev.now _)
    · refine Ev.bind (a := false) (Ev.k (by unfold spec_l6In.f; rw [if_neg (by omega)])) ?_
      rw [if_neg (fun e => h0 e.2.1)]
      exact Ev.no (by simp) (Ev.now _)
def fn (r : List Int) (j : Nat) : Int := rd r (j : Int)
theorem Qs {p x y c : Int} (a b : Int) (hx : p ∣ x) (hy : p ∣ y) (h : c = a * x + b * y) : p ∣ c := by
  rw [h]; exact Int.dvd_add (Int.dvd_mul_of_dvd_right hx) (Int.dvd_mul_of_dvd_right hy)
theorem Qk {p x c : Int} (a : Int) (hx : p ∣ x) (h : c = a * x) : p ∣ c := by
  rw [h]; exact Int.dvd_mul_of_dvd_right hx
inductive Sp (p : Int) (w : Nat) (L : List (List Int)) : (Nat → Int) → Prop where
  | zero (v : Nat → Int) : (∀ j, j < w → p ∣ v j) → Sp p w L v
  | add (v u : Nat → Int) (r : List Int) (t : Int) : r ∈ L → Sp p w L u → (∀ j, j < w → p ∣ v j - (u j + t * fn r j)) → Sp p w L v
theorem Sp.congr {p : Int} {w : Nat} {L : List (List Int)} {u v : Nat → Int} (h : Sp p w L u) (he : ∀ j, j < w → p ∣ v j - u j) : Sp p w L v := by
  cases h with
  | zero _ hz => exact .zero v fun j hj => Qs 1 1 (he j hj) (hz j hj) (by omega)
  | add _ u' r t hr hu h2 => exact .add v u' r t hr hu fun j hj => Qs 1 1 (he j hj) (h2 j hj) (by omega)
theorem Sp.sum {p : Int} {w : Nat} {L : List (List Int)} {u v : Nat → Int} (hu : Sp p w L u) (hv : Sp p w L v) : Sp p w L fun j => u j + v j := by
  induction hv with
  | zero v hz => exact hu.congr fun j hj => Qk 1 (hz j hj) (by omega)
  | add v u' r t hr _ h2 ih => exact .add _ _ r t hr ih fun j hj => Qk 1 (h2 j hj) (by omega)
theorem Sp.scale {p : Int} {w : Nat} {L : List (List Int)} {v : Nat → Int} (s : Int) (hv : Sp p w L v) : Sp p w L fun j => s * v j := by
  induction hv with
  | zero v hz => exact .zero _ fun j hj => Qk s (hz j hj) rfl
  | add v u r t hr _ h2 ih => exact .add _ _ r (s * t) hr ih fun j hj => Qk s (h2 j hj) (by rw [Int.mul_sub, Int.mul_add, Int.mul_assoc])
theorem Sp.mem {p : Int} {w : Nat} {L : List (List Int)} {r : List Int} (hr : r ∈ L) : Sp p w L (fn r) :=
  .add _ (fun _ => 0) r 1 hr (.zero _ fun _ _ => Int.dvd_zero p) fun j _ => by simp
theorem Sp.sub {p : Int} {w : Nat} {L M : List (List Int)} (h : ∀ r ∈ L, Sp p w M (fn r)) {v : Nat → Int} (hv : Sp p w L v) : Sp p w M v := by
  induction hv with
  | zero v hz => exact .zero v hz
  | add v u r t hr _ h2 ih => exact (ih.sum ((h r hr).scale t)).congr h2
structure Rref (p : Int) (w : Nat) (P : List (Nat × List Int)) : Prop where
  lt : ∀ x ∈ P, x.1 < w
  ok : ∀ x ∈ P, x.2.length = w ∧ ∀ y ∈ x.2, 0 ≤ y ∧ y < p
  one : ∀ x ∈ P, fn x.2 x.1 = 1
  low : ∀ x ∈ P, ∀ j, j < x.1 → fn x.2 j = 0
  off : ∀ x ∈ P, ∀ y ∈ P, x.1 ≠ y.1 → fn x.2 y.1 = 0
  inc : P.Pairwise fun x y => x.1 < y.1
def cs (P : List (Nat × List Int)) (v : Nat → Int) (j : Nat) : Int := (P.map fun x => v x.1 * fn x.2 j).sum
theorem Yq {p : Int} : ∀ (l : List Int), (∀ x ∈ l, p ∣ x) → p ∣ l.sum
  | [], _ => by simp
  | x :: l, h => by
    rw [List.sum_cons]
    exact Int.dvd_add (h x (by simp)) (Yq l fun y hy => h y (by simp [hy]))
theorem Vp {p : Int} {P : List (Nat × List Int)} {v : Nat → Int} {j : Nat} (h : ∀ x ∈ P, p ∣ v x.1 * fn x.2 j) : p ∣ cs P v j := by
  refine Yq _ fun y hy => ?_
  obtain ⟨x, hx, rfl⟩ := List.mem_map.1 hy
  exact h x hx
theorem Vq : ∀ (P : List (Nat × List Int)) (u v : Nat → Int) (t : Int) (j : Nat), cs P (fun i => u i + t * v i) j = cs P u j + t * cs P v j
  | [], _, _, _, _ => by simp [cs]
  | x :: P, u, v, t, j => by
    have ih := Vq P u v t j
    simp only [cs, List.map_cons, List.sum_cons] at ih ⊢
    rw [ih]
    grind
theorem Kj {p : Int} {w : Nat} {P : List (Nat × List Int)} (hlt : ∀ x ∈ P, x.1 < w) {u v : Nat → Int} (h : ∀ j, j < w → p ∣ v j - u j) (j : Nat) : p ∣ cs P v j - cs P u j := by
  have e : cs P v j - cs P u j = cs P (fun i => v i + (-1) * u i) j := by rw [Vq]; omega
  rw [e]
  exact Vp fun x hx => Qk (fn x.2 j) (h x.1 (hlt x hx)) (by rw [Int.mul_comm]; congr 1; omega)
theorem Vr {α : Type} (f : α → Int) (x : α) (A B : List α) (ha : ∀ y ∈ A, f y = 0) (hb : ∀ y ∈ B, f y = 0) : ((A ++ x :: B).map f).sum = f x := by
  have hz : ∀ C : List α, (∀ y ∈ C, f y = 0) → (C.map f).sum = 0 := by
    intro C
    induction C with
    | nil => intro _; rfl
    | cons y C ih => intro h; rw [List.map_cons, List.sum_cons, h y (by simp), ih fun z hz => h z (by simp [hz])]; rfl
  rw [List.map_append, List.sum_append, List.map_cons, List.sum_cons, hz A ha, hz B hb]; omega
theorem Vg {P : List (Nat × List Int)} (hi : P.Pairwise fun x y => x.1 < y.1) {x : Nat × List Int} (hx : x ∈ P) : ∃ A B, P = A ++ x :: B ∧ (∀ y ∈ A, y.1 ≠ x.1) ∧ ∀ y ∈ B, y.1 ≠ x.1 := by
  obtain ⟨A, B, rfl⟩ := List.append_of_mem hx
  rw [List.pairwise_append, List.pairwise_cons] at hi
  exact ⟨A, B, rfl, fun y hy => Nat.ne_of_lt (hi.2.2 y hy x (by simp)), fun y hy => Nat.ne_of_gt (hi.2.1.1 y hy)⟩
theorem Rref.cs_row {p : Int} {w : Nat} {P : List (Nat × List Int)} (h : Rref p w P) {x : Nat × List Int} (hx : x ∈ P) (j : Nat) : cs P (fn x.2) j = fn x.2 j := by
  obtain ⟨A, B, e, ha, hb⟩ := Vg h.inc hx
  have h1 : ∀ y, y ∈ P → y.1 ≠ x.1 → fn x.2 y.1 * fn y.2 j = 0 := fun y hy hn => by rw [h.off x hx y hy (Ne.symm hn), Int.zero_mul]
  rw [cs]
  conv => lhs; rw [e]
  rw [Vr _ x A B (fun y hy => h1 y (by rw [e]; simp [hy]) (ha y hy)) (fun y hy => h1 y (by rw [e]; simp [hy]) (hb y hy)), h.one x hx, Int.one_mul]
theorem Rref.coord {p : Int} {w : Nat} {P : List (Nat × List Int)} (h : Rref p w P) {v : Nat → Int} (hv : Sp p w (P.map Prod.snd) v) : ∀ j, j < w → p ∣ v j - cs P v j := by
  induction hv with
  | zero v hz => exact fun j hj => Qs 1 (-1) (hz j hj) (Vp (P := P) (j := j) fun x hx => Qk (fn x.2 j) (hz x.1 (h.lt x hx)) (Int.mul_comm _ _)) (by omega)
  | add v u r t hr _ h2 ih =>
    intro j hj
    obtain ⟨x, hx, rfl⟩ := List.mem_map.1 hr
    have h3 := Kj h.lt h2 j
    rw [Vq, h.cs_row hx] at h3
    have h4 := h2 j hj
    have h5 := ih j hj
    exact Qs 1 1 (Qs 1 (-1) h4 h3 rfl) h5 (by omega)
theorem Rref.lead {p : Int} {w : Nat} {P : List (Nat × List Int)} (h : Rref p w P) {v : Nat → Int} (hv : Sp p w (P.map Prod.snd) v) {j : Nat} (hj : j < w) (hz : ∀ i, i < j → p ∣ v i) (hn : ¬ p ∣ v j) : ∃ x ∈ P, x.1 = j := by
  by_cases hex : ∃ x ∈ P, x.1 = j
  · exact hex
  · exfalso
    have h1 := h.coord hv j hj
    refine hn (Qs 1 1 h1 (Vp (P := P) (v := v) (j := j) fun x hx => ?_) (by omega))
    have hne : x.1 ≠ j := fun e => hex ⟨x, hx, e⟩
    by_cases hlt : x.1 < j
    · exact Qk (fn x.2 j) (hz x.1 hlt) (Int.mul_comm _ _)
    · rw [h.low x hx j (by omega), Int.mul_zero]; exact Int.dvd_zero p
theorem Vs {α : Type} {key : α → Nat} : ∀ {P Q : List α}, P.Pairwise (fun x y => key x < key y) → Q.Pairwise (fun x y => key x < key y) → (∀ x, x ∈ P ↔ x ∈ Q) → P = Q
  | [], [], _, _, _ => rfl
  | [], y :: Q, _, _, h => absurd ((h y).2 (by simp)) (by simp)
  | x :: P, [], _, _, h => absurd ((h x).1 (by simp)) (by simp)
  | x :: P, y :: Q, hp, hq, h => by
    rw [List.pairwise_cons] at hp hq
    have e : x = y := by
      rcases List.mem_cons.1 ((h x).1 (by simp)) with e | hx
      · exact e
      · rcases List.mem_cons.1 ((h y).2 (by simp)) with e | hy
        · exact e.symm
        · have := hq.1 x hx; have := hp.1 y hy; omega
    subst e
    rw [Vs hp.2 hq.2 fun z => ?_]
    constructor
    · intro hz
      rcases List.mem_cons.1 ((h z).1 (by simp [hz])) with e | hz'
      · subst e; have := hp.1 z hz; omega
      · exact hz'
    · intro hz
      rcases List.mem_cons.1 ((h z).2 (by simp [hz])) with e | hz'
      · subst e; have := hq.1 z hz; omega
      · exact hz'
theorem Vt {p : Int} (hp : 2 ≤ p) : ¬ p ∣ 1 := fun h => by
  have := Int.le_of_dvd (by omega) h; omega
theorem Vu {p a b : Int} (ha : 0 ≤ a ∧ a < p) (hb : 0 ≤ b ∧ b < p) (h : p ∣ a - b) : a = b := by
  obtain ⟨k, hk⟩ := h
  have : k = 0 := by
    by_cases h1 : 1 ≤ k
    · have := Int.mul_le_mul_of_nonneg_left h1 (show 0 ≤ p by omega); omega
    · by_cases h2 : k ≤ -1
      · have := Int.mul_le_mul_of_nonneg_left h2 (show 0 ≤ p by omega); omega
      · omega
  subst this; omega
theorem Qu {p : Int} {w : Nat} {r : List Int} (h : r.length = w ∧ ∀ x ∈ r, 0 ≤ x ∧ x < p) (j : Nat) (hj : j < w) : 0 ≤ fn r j ∧ fn r j < p := by
  rw [fn, Qd r j (by omega)]; exact h.2 _ (List.getElem_mem _)
theorem Vv {a b : List Int} {w : Nat} (ha : a.length = w) (hb : b.length = w) (h : ∀ j, j < w → fn a j = fn b j) : a = b := by
  refine List.ext_getElem (by omega) fun j h1 h2 => ?_
  have := h j (by omega)
  rwa [fn, fn, Qd a j h1, Qd b j h2] at this
theorem Rref.heads {p : Int} {w : Nat} {P Q : List (Nat × List Int)} (hp : 2 ≤ p) (h : Rref p w P) (k : Rref p w Q) (hs : ∀ x ∈ P, Sp p w (Q.map Prod.snd) (fn x.2)) {x : Nat × List Int} (hx : x ∈ P) : ∃ y ∈ Q, y.1 = x.1 :=
  k.lead (hs x hx) (h.lt x hx) (fun i hi => by rw [h.low x hx i hi]; exact Int.dvd_zero p) (by rw [h.one x hx]; exact Vt hp)
theorem Rref.unique {p : Int} {w : Nat} {P Q : List (Nat × List Int)} (hp : 2 ≤ p) (h : Rref p w P) (k : Rref p w Q) (hs : ∀ x ∈ P, Sp p w (Q.map Prod.snd) (fn x.2)) (ks : ∀ x ∈ Q, Sp p w (P.map Prod.snd) (fn x.2)) : P = Q := by
  have key : ∀ {P Q : List (Nat × List Int)}, Rref p w P → Rref p w Q → (∀ x ∈ P, Sp p w (Q.map Prod.snd) (fn x.2)) → (∀ x ∈ Q, Sp p w (P.map Prod.snd) (fn x.2)) → ∀ x, x ∈ P → x ∈ Q := by
    intro P Q h k hs ks x hx
    obtain ⟨y, hy, e⟩ := h.heads hp k hs hx
    have e2 : x.2 = y.2 := by
      refine Vv (h.ok x hx).1 (k.ok y hy).1 fun j hj => Vu (Qu (h.ok x hx) j hj) (Qu (k.ok y hy) j hj) ?_
      have h1 := k.coord (hs x hx) j hj
      have h2 : cs Q (fn x.2) j = fn y.2 j := by
        obtain ⟨A, B, e3, ha, hb⟩ := Vg k.inc hy
        have h3 : ∀ z, z ∈ Q → z.1 ≠ y.1 → fn x.2 z.1 * fn z.2 j = 0 := fun z hz hn => by
          obtain ⟨x', hx', e4⟩ := k.heads hp h ks hz
          rw [← e4, h.off x hx x' hx' (by rw [e4, ← e]; exact Ne.symm hn), Int.zero_mul]
        rw [cs]
        conv => lhs; rw [e3]
        rw [Vr _ y A B (fun z hz => h3 z (by rw [e3]; simp [hz]) (ha z hz)) (fun z hz => h3 z (by rw [e3]; simp [hz]) (hb z hz)), e, h.one x hx, Int.one_mul]
      rwa [h2] at h1
    have : x = y := Prod.ext e.symm e2
    rwa [this]
  exact Vs (key := Prod.fst) h.inc k.inc fun x => ⟨key h k hs ks x, key k h ks hs x⟩
theorem Vw : ∀ {P Q : List (Nat × List Int)}, P.Pairwise (fun x y => x.1 < y.1) → Q.Pairwise (fun x y => x.1 < y.1) → (∀ x ∈ P, ∃ y ∈ Q, y.1 = x.1) → P.length ≤ Q.length
  | [], _, _, _, _ => by simp
  | x :: P, Q, hp, hq, h => by
    obtain ⟨y, hy, e⟩ := h x (by simp)
    obtain ⟨A, B, rfl⟩ := List.append_of_mem hy
    rw [List.pairwise_cons] at hp
    have hq' := hq
    rw [List.pairwise_append, List.pairwise_cons] at hq
    have hq2 : (A ++ B).Pairwise fun x y => x.1 < y.1 := by
      rw [List.pairwise_append]
      exact ⟨hq.1, hq.2.1.2, fun a ha b hb => hq.2.2 a ha b (by simp [hb])⟩
    have := Vw hp.2 hq2 fun z hz => by
      obtain ⟨u, hu, e2⟩ := h z (by simp [hz])
      have hne : u.1 ≠ y.1 := by have := hp.1 z hz; omega
      refine ⟨u, ?_, e2⟩
      simp only [List.mem_append, List.mem_cons] at hu ⊢
      rcases hu with hu | rfl | hu
      · exact .inl hu
      · exact absurd rfl hne
      · exact .inr hu
    simp at this ⊢
    omega
theorem Rref.len_le {p : Int} {w : Nat} {P Q : List (Nat × List Int)} (hp : 2 ≤ p) (h : Rref p w P) (k : Rref p w Q) (hs : ∀ x ∈ P, Sp p w (Q.map Prod.snd) (fn x.2)) : P.length ≤ Q.length :=
  Vw h.inc k.inc fun _ hx => h.heads hp k hs hx
def headP (l : List Int) : Int := (l.find? (fun x => x != 0)).getD 0
def rowP (p : Int) (l : List Int) : List Int := l.map fun x => x * invP p (headP l) % p
theorem Vx (x : Int) (l : List Int) : headP (x :: l) = if x = 0 then headP l else x := by
  unfold headP
  by_cases h : x = 0
  · simp [h]
  · simp [h]
theorem Qy {p x y : Int} (hp : p ≤ 31) (h0 : 0 ≤ x) (h1 : x < p) (h2 : 0 ≤ y) (h3 : y < p) : 0 ≤ x * y ∧ x * y ≤ 900 := by
  have h := Int.mul_le_mul (show x ≤ 30 by omega) (show y ≤ 30 by omega) h2 (by omega)
  exact ⟨Int.mul_nonneg h0 h2, by omega⟩
theorem Vy {p : Int} (hp : primeB p = true) (l : List Int) (hr : ∀ x ∈ l, 0 ≤ x ∧ x < p) (hl : l.length ≤ 1000) : ∀ (d i : Nat) (acc : List Int) (n : Int), i + d = l.length → acc.length = i → (n = 0 ∨ 0 ≤ n ∧ n < p) →
    Ev (fun k => spec_l4Row.l0 k p l acc n (i : Int)) (acc ++ (l.drop i).map fun x => x * (if n = 0 then invP p (headP (l.drop i)) else n) % p)
  | 0, i, acc, n, h, ha, hn => by
    refine Ev.step (f := fun _ => some acc) (fun k => ?_) ?_
    · rw [spec_l4Row.l0, if_neg (by omega)]
    · rw [List.drop_eq_nil_of_le (by omega)]; simpa using Ev.now acc
  | d + 1, i, acc, n, h, ha, hn => by
    have hb := Qa hp
    have hi : i < l.length := by omega
    have hx := hr _ (List.getElem_mem hi)
    rw [← Qd l i hi] at hx
    rw [Qm l i hi]
    by_cases h0 : n = 0
    · have hv := Qo hp hx.1 hx.2
      have hm := Qy hb.2 hx.1 hx.2 hv.2.1 hv.2.2.1
      refine Ev.step (f := fun k => (spec_l4Turned.f k p (rd l (i : Int))).bind fun t => spec_l4Row.l0 k p l (acc ++ [Int.tmod (wrap64 ((rd l (i : Int)) * t)) p]) t ((i + 1 : Nat) : Int)) (fun k => ?_) (Ev.bind (Uy hp hx.1 hx.2) ?_)
      · rw [spec_l4Row.l0, if_pos (by omega), if_pos h0, if_pos (by omega)]
        congr 1
        funext t
        rw [if_neg (by omega), if_pos (by omega), wsm (i := (i : Int) + 1) (by omega) (by omega)]
        rfl
      · have ih := Vy hp l hr hl d (i + 1) (acc ++ [Int.tmod (wrap64 ((rd l (i : Int)) * invP p (rd l (i : Int)))) p]) (invP p (rd l (i : Int))) (by omega) (by simp [ha]) (.inr ⟨hv.2.1, hv.2.2.1⟩)
        rw [wsm (by omega) (by omega), Int.tmod_eq_emod_of_nonneg hm.1] at ih ⊢
        rw [List.append_assoc] at ih
        rw [Vx, if_pos h0]
        by_cases hz : rd l (i : Int) = 0
        · rw [if_pos hz]
          rw [if_pos (hv.2.2.2.2 hz)] at ih
          simp only [hz, Int.zero_mul, List.map_cons] at ih ⊢
          exact ih
        · rw [if_neg hz]
          rw [if_neg (Ka hp hx.1 hx.2 hz)] at ih
          simpa using ih
    · have hn' : 0 ≤ n ∧ n < p := by rcases hn with h | h; exact absurd h h0; exact h
      have hm := Qy hb.2 hx.1 hx.2 hn'.1 hn'.2
      refine Ev.step (f := fun k => spec_l4Row.l0 k p l (acc ++ [Int.tmod (wrap64 ((rd l (i : Int)) * n)) p]) n ((i + 1 : Nat) : Int)) (fun k => ?_) ?_
      · rw [spec_l4Row.l0, if_pos (by omega), if_neg h0, if_pos (by omega), if_neg (by omega), if_pos (by omega), wsm (i := (i : Int) + 1) (by omega) (by omega)]
        rfl
      · have ih := Vy hp l hr hl d (i + 1) (acc ++ [Int.tmod (wrap64 ((rd l (i : Int)) * n)) p]) n (by omega) (by simp [ha]) hn
        rw [wsm (by omega) (by omega), Int.tmod_eq_emod_of_nonneg hm.1] at ih ⊢
        rw [if_neg h0] at ih ⊢
        simpa using ih
theorem Yr {p : Int} (hp : primeB p = true) (l : List Int) (hr : ∀ x ∈ l, 0 ≤ x ∧ x < p) (hl : l.length ≤ 1000) : Ev (fun k => spec_l4Row.f k p l) (rowP p l) := by
  have := Vy hp l hr hl l.length 0 [] 0 (by omega) rfl (.inl rfl)
  unfold spec_l4Row.f
  simpa [rowP] using this
theorem Kk : ∀ p ∈ ([7, 11, 13, 17, 19, 23, 29, 31] : List Int), ∀ x ∈ List.range 31, (x : Int) < p → (x : Int) ≠ 0 → impl_inverse.f 40 (x : Int) p = some (invP p (x : Int)) := by decide +kernel
theorem Kl {p : Int} (hp : primeB p = true) {x : Int} (h0 : 0 ≤ x) (h1 : x < p) (hx : x ≠ 0) : Ev (fun k => impl_inverse.f k x p) (invP p x) := by
  have hb := Qa hp
  refine Ev.of (impl_inverse.mono x p) (k := 40) ?_
  have h2 := Kk p (by have := Vb hp; simp; omega) x.toNat (by simp; omega) (by omega) (by omega)
  rwa [show ((x.toNat : Nat) : Int) = x by omega] at h2
theorem Ys {p : Int} (hp : 0 < p) (x : Int) : -p < Int.tmod x p ∧ Int.tmod x p < p := by
  refine ⟨?_, Int.tmod_lt_of_pos x hp⟩
  have h1 := Int.tmod_lt_of_pos (-x) hp
  rw [Int.neg_tmod] at h1
  omega
theorem Km {p : Int} (x : Int) : (Int.tmod x p + p) % p = x % p := by
  have h := Int.mul_tdiv_add_tmod x p
  have e : x = Int.tmod x p + p * x.tdiv p := by omega
  rw [Int.add_emod_right]
  conv => rhs; rw [e, Int.add_mul_emod_self_left]
theorem Yt {x p : Int} (hp : 7 ≤ p ∧ p ≤ 31) (h0 : -1000000000 ≤ x) (h1 : x ≤ 1000000000) : modV p (wrap64 x) = x % p := by
  rw [wsm (by omega) (by omega), modV]
  have hb := Ys (p := p) (by omega) x
  rw [wsm (by omega) (by omega), Int.tmod_eq_emod_of_nonneg (by omega), Km]
theorem Yu {p t : Int} (hp : 7 ≤ p ∧ p ≤ 31) (ht : 0 ≤ t ∧ t < p) (h : List Int) (hh : ∀ x ∈ h, 0 ≤ x ∧ x < p) : ∀ (r : List Int) (i : Nat), (∀ x ∈ r, 0 ≤ x ∧ x < p) → i + r.length = h.length → lessFrom p t h i r = lessP p t (h.drop i) r
  | [], _, _, _ => by simp [lessFrom, lessP]
  | x :: r, i, hr, hl => by
    have hx := hr x (by simp)
    simp only [List.length_cons] at hl
    have hy : 0 ≤ rd h (i : Int) ∧ rd h (i : Int) < p := by rw [Qd h i (by omega)]; exact hh _ (List.getElem_mem _)
    have hm := Qy hp.2 ht.1 ht.2 hy.1 hy.2
    rw [Qm h i (by omega), lessFrom, Yu hp ht h hh r (i + 1) (fun z hz => hr z (by simp [hz])) (by omega), wsm (i := t * rd h (i : Int)) (by omega) (by omega), Yt hp (by omega) (by omega)]
    simp [lessP]
theorem Kn {p : Int} {w : Nat} (hp : 7 ≤ p ∧ p ≤ 31) (c : Nat) (hc : c < w) {h r : List Int} (hh : h.length = w ∧ ∀ x ∈ h, 0 ≤ x ∧ x < p) (hr : r.length = w ∧ ∀ x ∈ r, 0 ≤ x ∧ x < p) : lessRow p c h r = lessP p (rd r (c : Int)) h r := by
  rw [lessRow, Yu hp (Qp hr c hc) h hh.2 r 0 hr.2 (by omega), List.drop_zero]
theorem Ko {p b : Int} {w : Nat} (hp : 7 ≤ p ∧ p ≤ 31) (hb : 0 ≤ b ∧ b < p) {r : List Int} (hr : r.length = w ∧ ∀ x ∈ r, 0 ≤ x ∧ x < p) : scaleRow p b r = scaleP p b r := by
  rw [scaleRow, scaleP]
  refine List.map_congr_left fun x hx => ?_
  have h1 := hr.2 x hx
  have hm := Qy hp.2 h1.1 h1.2 hb.1 hb.2
  rw [wsm (by omega) (by omega), Int.tmod_eq_emod_of_nonneg hm.1]
theorem Vz {p : Int} (hp : primeB p = true) {w : Nat} : ∀ (d c : Nat) (L O : List (List Int)), c + d = w → okR p w L → okR p w O → Ev (fun k => redCols k p d c L O) (redP p d c L O)
  | 0, _, _, O, _, _, _ => Ev.k rfl
  | d + 1, c, L, O, hw, hL, hO => by
    have hb := Qa hp
    unfold redCols redP
    cases hf : L.findIdx? (fun row => rd row (c : Int) != 0) with
    | none => exact Vz hp d (c + 1) L O (by omega) hL hO
    | some i =>
      simp only
      obtain ⟨hi, hne⟩ := Qt hf
      have hx := hL _ (Qe hi)
      have hxr := Qp hx c (by omega)
      have hne' : rd (L.getD i []) (c : Int) ≠ 0 := by simpa using hne
      have hinv := Qo hp hxr.1 hxr.2
      refine Ev.bind (Kl hp hxr.1 hxr.2 hne') ?_
      have hs := Qv (p := p) (b := invP p (rd (L.getD i []) (c : Int))) (by omega) hx.1
      rw [Ko hb ⟨hinv.2.1, hinv.2.2.1⟩ hx]
      have e1 : ∀ M : List (List Int), okR p w M → M.map (lessRow p c (scaleP p (invP p (rd (L.getD i []) (c : Int))) (L.getD i []))) = M.map fun r => lessP p (rd r (c : Int)) (scaleP p (invP p (rd (L.getD i []) (c : Int))) (L.getD i [])) r :=
        fun M hM => List.map_congr_left fun r hr => Kn hb c (by omega) hs (hM r hr)
      rw [e1 _ (Qw i hL), e1 _ hO]
      exact Vz hp d (c + 1) _ _ (by omega) (Qr _ (by omega) hs.1 (Qw i hL)) (Vd (Qr _ (by omega) hs.1 hO) (Qf hs (Qc p w)))
theorem Kp {p : Int} (hp : primeB p = true) {w : Nat} (L : List (List Int)) (hw : w < 1000000) (hl : L.length < 1000000) (hL : ∀ r ∈ L, r.length = w) : Ev (fun k => impl_reduced.f k p L) (redP p w 0 (L.map fun r => r.map (modV p)) []) := by
  have hb := Qa hp
  have hok : okR p w (L.map fun r => r.map (modV p)) := fun x hx => by
    obtain ⟨r, hr, rfl⟩ := List.mem_map.1 hx
    refine ⟨by rw [List.length_map, hL r hr], fun y hy => ?_⟩
    obtain ⟨z, _, rfl⟩ := List.mem_map.1 hy
    have h2 := Ys (p := p) (by omega) z
    rw [modV, wsm (by omega) (by omega), Int.tmod_eq_emod_of_nonneg (by omega)]
    exact ⟨Int.emod_nonneg _ (by omega), Int.emod_lt_of_pos _ (by omega)⟩
  cases L with
  | nil =>
    have e : ∀ d c, redP p d c [] [] = [] := fun d => by
      induction d with
      | zero => intro c; rfl
      | succ d ih => intro c; rw [redP]; exact ih (c + 1)
    rw [List.map_nil, e]
    refine Ev.k (α := List (List Int)) (x := some []) rfl |>.congr fun k => ?_
    rw [impl_reduced.f, if_neg (by omega), if_pos ⟨by simp, by simp, by simp⟩]
    simp [redCols]
  | cons r L =>
    have hr := hL r (by simp)
    refine (Vz hp w 0 _ [] (by omega) hok (Qc p w)).congr fun k => ?_
    rw [impl_reduced.f, if_neg (by omega), if_pos ⟨hl, by simpa [hr] using hw, by simpa [hr] using hL⟩]
    simp [hr]
theorem Kq {p x : Int} (hp : primeB p = true) (h0 : 0 ≤ x) (h1 : x < p) : modV p x = x := by
  have hb := Qa hp
  rw [modV, Int.tmod_eq_of_lt h0 h1, wsm (by omega) (by omega), Int.tmod_eq_emod_of_nonneg (by omega), Int.add_emod_right, Int.emod_eq_of_lt h0 h1]
theorem Yv {p : Int} (hp : primeB p = true) {w : Nat} (L : List (List Int)) (hw : w < 1000000) (hl : L.length < 1000000) (hL : okR p w L) : Ev (fun k => impl_reduced.f k p L) (redP p w 0 L []) := by
  have h := Kp hp L hw hl (fun r hr => (hL r hr).1)
  have e : (L.map fun r => r.map (modV p)) = L := by
    rw [List.map_congr_left (g := id)]
    · simp
    · intro r hr
      rw [List.map_congr_left (g := id)]
      · simp
      · intro x hx; have := (hL r hr).2 x hx; exact Kq hp this.1 this.2
  rwa [e] at h
theorem Kr (p x : Int) (hp : p ≠ 0) : spec_l4Mod.f p x = some (modV p x) := by rw [spec_l4Mod.f, if_neg hp]; rfl
theorem Yw {p t : Int} {w : Nat} (hp : 7 ≤ p ∧ p ≤ 31) (ht : 0 ≤ t ∧ t < p) {h r : List Int} (hh : h.length = w ∧ ∀ x ∈ h, 0 ≤ x ∧ x < p) (hr : r.length = w ∧ ∀ x ∈ r, 0 ≤ x ∧ x < p) (hw : w ≤ 1000) : ∀ (d i : Nat), i + d = w → Ev (fun k => spec_l4Less.l0 k p r t h ((lessP p t h r).take i) (i : Int)) (lessP p t h r)
  | 0, i, he => by
    have hl := (Ve (p := p) (t := t) (by omega) hh.1 hr.1).1
    refine Ev.step (f := fun _ => some (lessP p t h r)) (fun k => ?_) (Ev.now _)
    rw [spec_l4Less.l0, if_neg (by omega), List.take_of_length_le (by omega)]
  | d + 1, i, he => by
    have hl := (Ve (p := p) (t := t) (by omega) hh.1 hr.1).1
    have hx := Qp hr i (by omega)
    have hy := Qp hh i (by omega)
    have hm := Qy hp.2 ht.1 ht.2 hy.1 hy.2
    refine Ev.step (f := fun k => spec_l4Less.l0 k p r t h ((lessP p t h r).take (i + 1)) ((i + 1 : Nat) : Int)) (fun k => ?_) (Yw hp ht hh hr hw d (i + 1) (by omega))
    rw [spec_l4Less.l0, if_pos (by omega), if_pos (by omega), if_pos (by omega), Kr _ _ (by omega), Option.bind_some, if_pos (by simp; omega), wsm (i := (i : Int) + 1) (by omega) (by omega), wsm (i := t * rd h (i : Int)) (by omega) (by omega), Yt hp (by omega) (by omega)]
    have e : (lessP p t h r).take (i + 1) = (lessP p t h r).take i ++ [(rd r (i : Int) - t * rd h (i : Int)) % p] := by
      rw [List.take_add_one, List.getElem?_eq_getElem (by omega), ← Qd (lessP p t h r) i (by omega), Vm i (by omega) (by omega)]
      rfl
    rw [e]
    rfl
theorem Yx {p t : Int} {w : Nat} (hp : 7 ≤ p ∧ p ≤ 31) (ht : 0 ≤ t ∧ t < p) {h r : List Int} (hh : h.length = w ∧ ∀ x ∈ h, 0 ≤ x ∧ x < p) (hr : r.length = w ∧ ∀ x ∈ r, 0 ≤ x ∧ x < p) (hw : w ≤ 1000) : Ev (fun k => spec_l4Less.f k p r t h) (lessP p t h r) := by
  unfold spec_l4Less.f
  simpa using Yw hp ht hh hr hw w 0 (by omega)
theorem Qz (L : List (List Int)) (i : Nat) : rd_L2 L (i : Int) = L.getD i [] := by simp [rd_L2]
theorem Yy : ∀ (l : List Int) (c : Nat), c < l.length → (∀ j : Nat, j < c → rd l (j : Int) = 0) → rd l (c : Int) ≠ 0 → headP l = rd l (c : Int)
  | [], c, h, _, _ => absurd h (by simp)
  | x :: l, 0, _, _, hn => by
    have e : rd (x :: l) ((0 : Nat) : Int) = x := by simp [rd]
    rw [e] at hn ⊢
    rw [Vx, if_neg hn]
  | x :: l, c + 1, h, hz, hn => by
    have e : ∀ j : Nat, rd (x :: l) ((j + 1 : Nat) : Int) = rd l (j : Int) := fun j => by simp [rd]
    have h0 : x = 0 := by have := hz 0 (by omega); simpa [rd] using this
    rw [Vx, if_pos h0, e]
    exact Yy l c (by simpa using h) (fun j hj => by rw [← e]; exact hz (j + 1) (by omega)) (by rw [← e]; exact hn)
theorem Ks {p : Int} {l : List Int} {c : Nat} (hc : c < l.length) (hz : ∀ j : Nat, j < c → rd l (j : Int) = 0) (hn : rd l (c : Int) ≠ 0) : rowP p l = scaleP p (invP p (rd l (c : Int))) l := by
  rw [rowP, Yy l c hc hz hn, scaleP]
def zeroTo (c : Nat) (L : List (List Int)) : Prop := ∀ r ∈ L, ∀ j : Nat, j < c → rd r (j : Int) = 0
theorem Yz {p : Int} (hp : primeB p = true) {w c : Nat} (hc : c < w) {L : List (List Int)} (hL : okR p w L) (hz : zeroTo c L) {i : Nat} (hf : L.findIdx? (fun row => rd row (c : Int) != 0) = some i) :
    zeroTo (c + 1) ((L.eraseIdx i).map fun r => lessP p (rd r (c : Int)) (scaleP p (invP p (rd (L.getD i []) (c : Int))) (L.getD i [])) r) := by
  intro r hr j hj
  obtain ⟨q, hq, rfl⟩ := List.mem_map.1 hr
  have hq' := List.mem_of_mem_eraseIdx hq
  obtain ⟨hi, hne⟩ := Qt hf
  have hx := hL _ (Qe hi)
  have hxr := Qp hx c hc
  have hne' : rd (L.getD i []) (c : Int) ≠ 0 := by simpa using hne
  have hql := (hL q hq').1
  rw [Vm j (by omega) (by rw [(Qv (by have := Qa hp; omega) hx.1).1]; omega), Yp j (by omega)]
  by_cases e : j = c
  · subst e
    rw [(Qo hp hxr.1 hxr.2).2.2.2.1 hne', Int.mul_one, Int.sub_self, Int.zero_emod]
  · rw [hz q hq' j (by omega), hz _ (Qe hi) j (by omega)]
    simp
theorem Ua {c : Nat} {L : List (List Int)} (hz : zeroTo c L) (hf : L.findIdx? (fun row => rd row (c : Int) != 0) = none) : zeroTo (c + 1) L := by
  intro r hr j hj
  by_cases e : j = c
  · subst e
    have := List.findIdx?_eq_none_iff.1 hf r hr
    simpa using this
  · exact hz r hr j (by omega)
theorem Ub {p : Int} {w : Nat} {rows out : List (List Int)} {heads : List Int} {c : Nat} {R : List (List Int) × List Int} (hc : c < w) (hw : w ≤ 1000) (hlen : rows.length < 1000000) (hr : ∀ r ∈ rows, r.length = w)
    (hnone : rows.findIdx? (fun row => rd row (c : Int) != 0) = none → Ev (fun k => spec_l4Reduce.l0 k p rows (w : Int) out heads ((c + 1 : Nat) : Int)) R)
    (hsome : ∀ i, rows.findIdx? (fun row => rd row (c : Int) != 0) = some i → Ev (fun k => (spec_l4Row.f k p (rows.getD i [])).bind fun t => spec_l4Reduce.l2 k p rows (w : Int) out heads (c : Int) (i : Int) t [] 0) R) :
    ∀ (d i : Nat), i + d = rows.length → (rows.take i).findIdx? (fun row => rd row (c : Int) != 0) = none → Ev (fun k => spec_l4Reduce.l1 k p rows (w : Int) out heads (c : Int) (-1) (i : Int)) R
  | 0, i, he, hf => by
    have hf' : rows.findIdx? (fun row => rd row (c : Int) != 0) = none := by rwa [List.take_of_length_le (by omega)] at hf
    refine Ev.step (f := fun k => spec_l4Reduce.j2 k p rows (w : Int) out heads (c : Int) (-1) (i : Int) false) (fun k => ?_) ?_
    · rw [spec_l4Reduce.l1, if_neg (by omega)]
    · refine Ev.step (f := fun k => spec_l4Reduce.l0 k p rows (w : Int) out heads ((c + 1 : Nat) : Int)) (fun k => ?_) (hnone hf')
      rw [spec_l4Reduce.j2, if_neg (by simp), if_pos (by omega), wsm (by omega) (by omega)]
      rfl
  | d + 1, i, he, hf => by
    have hi : i < rows.length := by omega
    have hrl : (rows.getD i []).length = w := hr _ (Qe hi)
    refine Ev.step (f := fun k => spec_l4Reduce.j2 k p rows (w : Int) out heads (c : Int) (-1) (i : Int) true) (fun k => ?_) ?_
    · rw [spec_l4Reduce.l1, if_pos (by omega)]; rfl
    · by_cases hz : rd (rows.getD i []) (c : Int) = 0
      · refine Ev.step (f := fun k => spec_l4Reduce.l1 k p rows (w : Int) out heads (c : Int) (-1) ((i + 1 : Nat) : Int)) (fun k => ?_) (Ub hc hw hlen hr hnone hsome d (i + 1) (by omega) ?_)
        · rw [spec_l4Reduce.j2, if_pos rfl, if_pos (by omega), if_pos (by omega), if_pos (by omega), Qz, if_pos (by omega), if_pos hz, wsm (by omega) (by omega)]
          rfl
        · rw [List.take_add_one, List.findIdx?_append, hf, List.getElem?_eq_getElem hi]
          rw [List.getD_eq_getElem?_getD, List.getElem?_eq_getElem hi] at hz
          simp only [Option.getD_some] at hz
          simp [List.findIdx?_cons, hz]
      · have hfi : rows.findIdx? (fun row => rd row (c : Int) != 0) = some i := by
          rw [List.getD_eq_getElem?_getD, List.getElem?_eq_getElem hi] at hz
          simp only [Option.getD_some] at hz
          have hsplit : rows = rows.take i ++ rows[i] :: rows.drop (i + 1) := by rw [List.getElem_cons_drop, List.take_append_drop]
          rw [hsplit, List.findIdx?_append, hf]
          have hz' : (rd rows[i] (c : Int) != 0) = true := bne_iff_ne.mpr hz
          rw [List.findIdx?_cons, hz']
          simp only [if_true, Option.map_some, Option.none_or, List.length_take, Nat.zero_add]
          rw [Nat.min_eq_left (by omega)]
        have hs := hsome i hfi
        have hfin : ∀ q : Nat, Ev (fun k => spec_l4Reduce.j2 k p rows (w : Int) out heads (c : Int) (i : Int) (q : Int) false) R := fun q => by
          refine Ev.step (f := fun k => (spec_l4Row.f k p (rows.getD i [])).bind fun t => spec_l4Reduce.l2 k p rows (w : Int) out heads (c : Int) (i : Int) t [] 0) (fun k => ?_) hs
          rw [spec_l4Reduce.j2, if_neg (by simp), if_neg (by omega), if_pos (by omega), if_pos (by omega), Qz]
        refine Ev.step (f := fun k => spec_l4Reduce.l1 k p rows (w : Int) out heads (c : Int) (i : Int) ((i + 1 : Nat) : Int)) (fun k => ?_) ?_
        · rw [spec_l4Reduce.j2, if_pos rfl, if_pos (by omega), if_pos (by omega), if_pos (by omega), Qz, if_pos (by omega), if_neg hz, wsm (by omega) (by omega)]
          rfl
        · refine Ev.step (f := fun k => spec_l4Reduce.j2 k p rows (w : Int) out heads (c : Int) (i : Int) ((i + 1 : Nat) : Int) false) (fun k => ?_) (hfin (i + 1))
          rw [spec_l4Reduce.l1]
          split
          · rw [decide_eq_false (by omega)]
          · rfl
theorem Uc {p : Int} {w : Nat} (hp : 7 ≤ p ∧ p ≤ 31) {rows out : List (List Int)} {heads : List Int} {c at_ : Nat} {row : List Int} {R : List (List Int) × List Int} (hc : c < w) (hw : w ≤ 1000) (hlen : rows.length < 1000000) (hr : okR p w rows) (hrow : row.length = w ∧ ∀ x ∈ row, 0 ≤ x ∧ x < p) (hat : at_ < rows.length)
    (hend : Ev (fun k => spec_l4Reduce.l3 k p ((rows.eraseIdx at_).map fun r => lessP p (rd r (c : Int)) row r) (w : Int) out heads (c : Int) row 0) R) :
    ∀ (d i : Nat), i + d = rows.length → Ev (fun k => spec_l4Reduce.l2 k p rows (w : Int) out heads (c : Int) (at_ : Int) row (((rows.take i).eraseIdx at_).map fun r => lessP p (rd r (c : Int)) row r) (i : Int)) R
  | 0, i, he => by
    refine Ev.step (f := fun k => spec_l4Reduce.l3 k p ((rows.eraseIdx at_).map fun r => lessP p (rd r (c : Int)) row r) (w : Int) out heads (c : Int) row 0) (fun k => ?_) hend
    rw [spec_l4Reduce.l2, if_neg (by omega), List.take_of_length_le (by omega)]
  | d + 1, i, he => by
    have hi : i < rows.length := by omega
    have ih := Uc hp hc hw hlen hr hrow hat hend d (i + 1) (by omega)
    by_cases e : i = at_
    · subst e
      refine Ev.step (f := fun k => spec_l4Reduce.l2 k p rows (w : Int) out heads (c : Int) (i : Int) row (((rows.take (i + 1)).eraseIdx i).map fun r => lessP p (rd r (c : Int)) row r) ((i + 1 : Nat) : Int)) (fun k => ?_) ih
      rw [spec_l4Reduce.l2, if_pos (by omega), if_pos rfl, wsm (by omega) (by omega)]
      have e1 : (rows.take i).eraseIdx i = rows.take i := List.eraseIdx_of_length_le (by rw [List.length_take]; omega)
      have e2 : (rows.take (i + 1)).eraseIdx i = rows.take i := by
        rw [List.take_add_one, List.eraseIdx_append_of_length_le (by rw [List.length_take]; omega)]
        simp [Nat.min_eq_left (Nat.le_of_lt hi), List.getElem?_eq_getElem hi]
      rw [e1, e2]
      rfl
    · have hrow_i := hr _ (Qe hi)
      have ht := Qp hrow_i c hc
      refine Ev.step (f := fun k => (spec_l4Less.f k p (rows.getD i []) (rd (rows.getD i []) (c : Int)) row).bind fun t => if (((rows.take i).eraseIdx at_).map fun r => lessP p (rd r (c : Int)) row r).length < 5864062014805 then spec_l4Reduce.l2 k p rows (w : Int) out heads (c : Int) (at_ : Int) row ((((rows.take i).eraseIdx at_).map fun r => lessP p (rd r (c : Int)) row r) ++ [t]) ((i + 1 : Nat) : Int) else none) (fun k => ?_) ?_
      · rw [spec_l4Reduce.l2, if_pos (by omega), if_neg (by omega), if_pos (by omega), if_pos (by omega), Qz, if_pos (by omega), wsm (by omega) (by omega)]
        rfl
      · refine Ev.bind (Yx hp ht hrow hrow_i hw) (Ev.yes ?_ ?_)
        · rw [List.length_map]
          have h1 := List.length_eraseIdx_le (rows.take i) at_
          have h2 : (rows.take i).length ≤ rows.length := by rw [List.length_take]; omega
          omega
        · have e2 : ((rows.take (i + 1)).eraseIdx at_).map (fun r => lessP p (rd r (c : Int)) row r) = ((rows.take i).eraseIdx at_).map (fun r => lessP p (rd r (c : Int)) row r) ++ [lessP p (rd (rows.getD i []) (c : Int)) row (rows.getD i [])] := by
            have e3 : rows.take (i + 1) = rows.take i ++ [rows.getD i []] := by
              rw [List.take_add_one, List.getElem?_eq_getElem hi, List.getD_eq_getElem?_getD, List.getElem?_eq_getElem hi]; rfl
            by_cases hlt : at_ < i
            · rw [e3, List.eraseIdx_append_of_lt_length (by simp; omega), List.map_append]; rfl
            · rw [List.eraseIdx_of_length_le (by simp; omega), List.eraseIdx_of_length_le (by simp; omega), e3, List.map_append]; rfl
          rw [e2] at ih
          exact ih
theorem Ud {p : Int} {w : Nat} (hp : 7 ≤ p ∧ p ≤ 31) {rest out : List (List Int)} {heads : List Int} {c : Nat} {row : List Int} {R : List (List Int) × List Int} (hc : c < w) (hw : w ≤ 1000) (hlen : out.length < 1000000) (hh : heads.length < 1000000) (hr : okR p w out) (hrow : row.length = w ∧ ∀ x ∈ row, 0 ≤ x ∧ x < p)
    (hend : Ev (fun k => spec_l4Reduce.l0 k p rest (w : Int) ((out.map fun r => lessP p (rd r (c : Int)) row r) ++ [row]) (heads ++ [(c : Int)]) ((c + 1 : Nat) : Int)) R) :
    ∀ (d i : Nat), i + d = out.length → Ev (fun k => spec_l4Reduce.l3 k p rest (w : Int) ((out.map fun r => lessP p (rd r (c : Int)) row r).take i ++ out.drop i) heads (c : Int) row (i : Int)) R
  | 0, i, he => by
    refine Ev.step (f := fun k => spec_l4Reduce.l0 k p rest (w : Int) ((out.map fun r => lessP p (rd r (c : Int)) row r) ++ [row]) (heads ++ [(c : Int)]) ((c + 1 : Nat) : Int)) (fun k => ?_) hend
    rw [List.drop_eq_nil_of_le (by omega), List.append_nil, List.take_of_length_le (by simp; omega), spec_l4Reduce.l3, if_neg (by simp; omega), if_pos (by simp; omega), if_pos (by omega), wsm (by omega) (by omega)]
    rfl
  | d + 1, i, he => by
    have hi : i < out.length := by omega
    have ih := Ud hp hc hw hlen hh hr hrow hend d (i + 1) (by omega)
    have hrow_i := hr _ (Qe hi)
    have ht := Qp hrow_i c hc
    have hcur : ((out.map fun r => lessP p (rd r (c : Int)) row r).take i ++ out.drop i).getD i [] = out.getD i [] := by
      simp [List.getD_eq_getElem?_getD, List.getElem?_append_right, Nat.min_eq_left (Nat.le_of_lt hi), hi]
    have hcl : ((out.map fun r => lessP p (rd r (c : Int)) row r).take i ++ out.drop i).length = out.length := by simp; omega
    have hset : ((out.map fun r => lessP p (rd r (c : Int)) row r).take i ++ out.drop i).set i (lessP p (rd (out.getD i []) (c : Int)) row (out.getD i [])) = (out.map fun r => lessP p (rd r (c : Int)) row r).take (i + 1) ++ out.drop (i + 1) :=
      scan_set _ _ _ _ (by simp) hi (by simp [List.getD_eq_getElem?_getD, List.getElem?_eq_getElem hi])
    refine Ev.step (f := fun k => (spec_l4Less.f k p (out.getD i []) (rd (out.getD i []) (c : Int)) row).bind fun t => spec_l4Reduce.l3 k p rest (w : Int) (((out.map fun r => lessP p (rd r (c : Int)) row r).take i ++ out.drop i).set i t) heads (c : Int) row ((i + 1 : Nat) : Int)) (fun k => ?_) ?_
    · rw [spec_l4Reduce.l3, if_pos (by omega), if_pos (by omega), if_pos (by omega), Qz, hcur, if_pos (by omega), wsm (by omega) (by omega), Int.toNat_natCast]
      rfl
    · refine Ev.bind (Yx hp ht hrow hrow_i hw) ?_
      rw [hset]
      exact ih
theorem Ya {p : Int} (hp : primeB p = true) {w : Nat} (hw : w ≤ 1000) : ∀ (d c : Nat) (L O : List (List Int)) (H : List Int), c + d = w → okR p w L → okR p w O → zeroTo c L → L.length + O.length < 1000000 → H.length = O.length →
    Ev (fun k => spec_l4Reduce.l0 k p L (w : Int) O H (c : Int)) (redP p d c L O, headsP p d c L H)
  | 0, c, L, O, H, hc, _, _, _, _, _ => by
    refine Ev.step (f := fun _ => some (O, H)) (fun k => ?_) (Ev.now _)
    rw [spec_l4Reduce.l0, if_neg (by omega)]
  | d + 1, c, L, O, H, hc, hL, hO, hz, hl, hH => by
    have hb := Qa hp
    refine Ev.step (f := fun k => spec_l4Reduce.l1 k p L (w : Int) O H (c : Int) (-1) ((0 : Nat) : Int)) (fun k => ?_) ?_
    · rw [spec_l4Reduce.l0, if_pos (by omega)]; rfl
    · refine Ub (by omega) hw (by omega) (fun r hr => (hL r hr).1) (fun hf => ?_) (fun i hf => ?_) L.length 0 (by omega) rfl
      · have ih := Ya hp hw d (c + 1) L O H (by omega) hL hO (Ua hz hf) hl hH
        rw [redP, headsP, hf]
        exact ih
      · obtain ⟨hi, hne⟩ := Qt hf
        have hx := hL _ (Qe hi)
        have hne' : rd (L.getD i []) (c : Int) ≠ 0 := by simpa using hne
        have hs := Qv (p := p) (b := invP p (rd (L.getD i []) (c : Int))) (by omega) hx.1
        have hzn := Yz hp (by omega) hL hz hf
        have ih := Ya hp hw d (c + 1) ((L.eraseIdx i).map fun r => lessP p (rd r (c : Int)) (scaleP p (invP p (rd (L.getD i []) (c : Int))) (L.getD i [])) r) ((O.map fun r => lessP p (rd r (c : Int)) (scaleP p (invP p (rd (L.getD i []) (c : Int))) (L.getD i [])) r) ++ [scaleP p (invP p (rd (L.getD i []) (c : Int))) (L.getD i [])]) (H ++ [(c : Int)]) (by omega)
          (Qr _ (by omega) hs.1 (Qw i hL)) (Vd (Qr _ (by omega) hs.1 hO) (Qf hs (Qc p w))) hzn (by simp [List.length_eraseIdx, hi]; omega) (by simp [hH])
        rw [redP, headsP, hf]
        simp only
        refine Ev.bind (a := scaleP p (invP p (rd (L.getD i []) (c : Int))) (L.getD i [])) ?_ ?_
        · have h1 := Yr hp (L.getD i []) hx.2 (by omega)
          rwa [Ks (by omega) (hz _ (Qe hi)) hne'] at h1
        · have h2 := Ud hb (c := c) (heads := H) (out := O) (rest := (L.eraseIdx i).map fun r => lessP p (rd r (c : Int)) (scaleP p (invP p (rd (L.getD i []) (c : Int))) (L.getD i [])) r) (by omega) hw (by omega) (by omega) hO hs ih O.length 0 (by omega)
          have h3 := Uc hb (c := c) (by omega) hw (by omega) hL hs hi (by simpa using h2) L.length 0 (by omega)
          simpa using h3
theorem Yb {p : Int} (hp : primeB p = true) {w : Nat} (hw : w ≤ 1000) (L : List (List Int)) (hL : okR p w L) (hl : L.length < 1000000) : Ev (fun k => spec_l4Reduce.f k p L (w : Int)) (redP p w 0 L [], headsP p w 0 L []) := by
  unfold spec_l4Reduce.f
  exact Ya hp hw w 0 L [] [] (by omega) hL (Qc p w) (fun _ _ j hj => absurd hj (by omega)) (by simpa using hl) rfl
theorem Va (a p : Int) : p ∣ a - a % p := ⟨a / p, by have := Int.mul_ediv_add_emod a p; omega⟩
theorem Kt {p t : Int} {h r : List Int} {w : Nat} (hh : h.length = w) (hr : r.length = w) {j : Nat} (hj : j < w) : fn (lessP p t h r) j = (fn r j - t * fn h j) % p := Vm j (by omega) (by omega)
theorem Ku {p b : Int} {r : List Int} {w : Nat} (hr : r.length = w) {j : Nat} (hj : j < w) : fn (scaleP p b r) j = fn r j * b % p := Yp j (by omega)
theorem Kv {α : Type} [Inhabited α] (L : List α) (i : Nat) (d : α) (hi : i < L.length) : L = L.take i ++ L.getD i d :: L.drop (i + 1) ∧ L.eraseIdx i = L.take i ++ L.drop (i + 1) := by
  refine ⟨?_, List.eraseIdx_eq_take_drop_succ L i⟩
  rw [List.getD_eq_getElem?_getD, List.getElem?_eq_getElem hi, Option.getD_some, List.getElem_cons_drop, List.take_append_drop]
theorem Kw {L : List (List Int)} {i : Nat} (hi : i < L.length) {r : List Int} : r ∈ L ↔ r = L.getD i [] ∨ r ∈ L.eraseIdx i := by
  obtain ⟨h1, h2⟩ := Kv L i [] hi
  rw [h2]
  conv => lhs; rw [h1]
  simp only [List.mem_append, List.mem_cons]
  constructor
  · rintro (h | h | h)
    · exact .inr (.inl h)
    · exact .inl h
    · exact .inr (.inr h)
  · rintro (h | h | h)
    · exact .inr (.inl h)
    · exact .inl h
    · exact .inr (.inr h)
theorem Yc {p : Int} (hp : primeB p = true) {w : Nat} : ∀ (d c : Nat) (L : List (List Int)) (P : List (Nat × List Int)), c + d = w → okR p w L → Rref p w P → (∀ x ∈ P, x.1 < c) → zeroTo c L →
    ∃ Q : List (Nat × List Int), redP p d c L (P.map Prod.snd) = Q.map Prod.snd ∧ headsP p d c L (P.map fun x => (x.1 : Int)) = Q.map (fun x => (x.1 : Int)) ∧ Rref p w Q ∧ (∀ r ∈ L ++ P.map Prod.snd, Sp p w (Q.map Prod.snd) (fn r)) ∧ ∀ x ∈ Q, Sp p w (L ++ P.map Prod.snd) (fn x.2)
  | 0, c, L, P, hw, hL, hP, hlt, hz => by
    refine ⟨P, rfl, rfl, hP, fun r hr => ?_, fun x hx => Sp.mem (by simp; exact .inr ⟨_, hx⟩)⟩
    rcases List.mem_append.1 hr with hr | hr
    · exact .zero _ fun j hj => by rw [fn, hz r hr j (by omega)]; exact Int.dvd_zero p
    · exact Sp.mem hr
  | d + 1, c, L, P, hw, hL, hP, hlt, hz => by
    have hb := Qa hp
    rw [redP, headsP]
    cases hf : L.findIdx? (fun row => rd row (c : Int) != 0) with
    | none => exact Yc hp d (c + 1) L P (by omega) hL hP (fun x hx => by have := hlt x hx; omega) (Ua hz hf)
    | some i =>
      simp only
      obtain ⟨hi, hne⟩ := Qt hf
      have hx := hL _ (Qe hi)
      have hxr := Qp hx c (by omega)
      have hne' : rd (L.getD i []) (c : Int) ≠ 0 := by simpa using hne
      have hinv := (Qo hp hxr.1 hxr.2).2.2.2.1 hne'
      have hs := Qv (p := p) (b := invP p (rd (L.getD i []) (c : Int))) (by omega) hx.1
      have hzn := Yz hp (by omega) hL hz hf
      obtain ⟨x, hxe⟩ : ∃ x, L.getD i [] = x := ⟨_, rfl⟩
      rw [hxe] at hx hxr hne' hinv hs hzn ⊢
      have hxm : x ∈ L := hxe ▸ Qe hi
      obtain ⟨b, hbe⟩ : ∃ b, invP p (rd x (c : Int)) = b := ⟨_, rfl⟩
      rw [hbe] at hinv hs hzn ⊢
      obtain ⟨h, hhe⟩ : ∃ h, scaleP p b x = h := ⟨_, rfl⟩
      have hfh : ∀ j, j < w → fn h j = fn x j * b % p := fun j hj => by rw [← hhe]; exact Ku hx.1 hj
      rw [hhe] at hs hzn ⊢
      have hhc : fn h c = 1 := by rw [hfh c (by omega)]; exact hinv
      have hhl : ∀ j, j < c → fn h j = 0 := fun j hj => by rw [hfh j (by omega), fn, hz x hxm j hj]; simp
      have hfl : ∀ r : List Int, r.length = w → ∀ j, j < w → fn (lessP p (rd r (c : Int)) h r) j = (fn r j - fn r c * fn h j) % p := fun r hr j hj => Kt hs.1 hr hj
      -- the next state
      have hP' : Rref p w (P.map (fun y => (y.1, lessP p (rd y.2 (c : Int)) h y.2)) ++ [(c, h)]) := by
        have hm : ∀ z, z ∈ P.map (fun y => (y.1, lessP p (rd y.2 (c : Int)) h y.2)) ++ [(c, h)] → (∃ y ∈ P, z = (y.1, lessP p (rd y.2 (c : Int)) h y.2)) ∨ z = (c, h) := by
          intro z hz
          rcases List.mem_append.1 hz with hz | hz
          · obtain ⟨y, hy, rfl⟩ := List.mem_map.1 hz; exact .inl ⟨y, hy, rfl⟩
          · exact .inr (by simpa using hz)
        refine ⟨fun z hz => ?_, fun z hz => ?_, fun z hz => ?_, fun z hz j hj => ?_, fun z hz z' hz' hnn => ?_, ?_⟩
        · rcases hm z hz with ⟨y, hy, rfl⟩ | rfl
          · exact hP.lt y hy
          · show c < w; omega
        · rcases hm z hz with ⟨y, hy, rfl⟩ | rfl
          · exact Ve (by omega) hs.1 (hP.ok y hy).1
          · exact hs
        · rcases hm z hz with ⟨y, hy, rfl⟩ | rfl
          · have h1 := hlt y hy
            show fn (lessP p (rd y.2 (c : Int)) h y.2) y.1 = 1
            rw [hfl _ (hP.ok y hy).1 y.1 (by omega), hP.one y hy, hhl y.1 h1, Int.mul_zero, Int.sub_zero, Int.emod_eq_of_lt (by omega) (by omega)]
          · exact hhc
        · rcases hm z hz with ⟨y, hy, rfl⟩ | rfl
          · have h1 := hlt y hy
            have hj' : j < y.1 := hj
            show fn (lessP p (rd y.2 (c : Int)) h y.2) j = 0
            rw [hfl _ (hP.ok y hy).1 j (by omega), hP.low y hy j hj', hhl j (by omega)]; simp
          · exact hhl j hj
        · rcases hm z hz with ⟨y, hy, rfl⟩ | rfl
          · rcases hm z' hz' with ⟨y', hy', rfl⟩ | rfl
            · have h1 := hlt y' hy'
              show fn (lessP p (rd y.2 (c : Int)) h y.2) y'.1 = 0
              rw [hfl _ (hP.ok y hy).1 y'.1 (by omega), hP.off y hy y' hy' hnn, hhl y'.1 h1]; simp
            · show fn (lessP p (rd y.2 (c : Int)) h y.2) c = 0
              rw [hfl _ (hP.ok y hy).1 c (by omega), hhc]; simp
          · rcases hm z' hz' with ⟨y', hy', rfl⟩ | rfl
            · exact hhl y'.1 (hlt y' hy')
            · exact absurd rfl hnn
        · rw [List.pairwise_append]
          refine ⟨?_, by simp, fun a ha b hb => ?_⟩
          · rw [List.pairwise_map]; exact hP.inc
          · obtain ⟨y, hy, rfl⟩ := List.mem_map.1 ha
            have hbe : b = (c, h) := by simpa using hb
            subst hbe
            exact hlt y hy
      have e1 : (P.map Prod.snd).map (fun r => lessP p (rd r (c : Int)) h r) ++ [h] = (P.map (fun y => (y.1, lessP p (rd y.2 (c : Int)) h y.2)) ++ [(c, h)]).map Prod.snd := by
        simp [List.map_map, Function.comp_def]
      have e2 : (P.map fun x => (x.1 : Int)) ++ [(c : Int)] = (P.map (fun y => (y.1, lessP p (rd y.2 (c : Int)) h y.2)) ++ [(c, h)]).map fun x => (x.1 : Int) := by
        simp [List.map_map, Function.comp_def]
      have ih := Yc hp d (c + 1) ((L.eraseIdx i).map fun r => lessP p (rd r (c : Int)) h r) (P.map (fun y => (y.1, lessP p (rd y.2 (c : Int)) h y.2)) ++ [(c, h)]) (by omega) (Qr _ (by omega) hs.1 (Qw i hL)) hP' (fun z hz => by
          rcases List.mem_append.1 hz with hz | hz
          · obtain ⟨y, hy, rfl⟩ := List.mem_map.1 hz; have := hlt y hy; show y.1 < c + 1; omega
          · have : z = (c, h) := by simpa using hz
            subst this; show c < c + 1; omega) hzn
      rw [e1, e2]
      obtain ⟨Q, hq1, hq2, hQ, hq3, hq4⟩ := ih
      -- the spans
      have hold : ∀ r, r ∈ L ++ P.map Prod.snd → r.length = w := fun r hr => by
        rcases List.mem_append.1 hr with hr | hr
        · exact (hL r hr).1
        · obtain ⟨y, hy, rfl⟩ := List.mem_map.1 hr; exact (hP.ok y hy).1
      have hxs : ∀ j, j < w → p ∣ fn x j - fn x c * fn h j := fun j hj => by
        have h1 := Va (fn x j * b) p
        rw [← hfh j hj] at h1
        have h2 : p ∣ fn x c * b - 1 := by
          have := Va (fn x c * b) p
          rw [show fn x c * b % p = 1 from hinv] at this; exact this
        exact Qs (fn x c) (-(fn x j)) h1 h2 (by grind)
      have hnewm : ∀ r, r ∈ L.eraseIdx i ++ P.map Prod.snd → lessP p (rd r (c : Int)) h r ∈ ((L.eraseIdx i).map fun r => lessP p (rd r (c : Int)) h r) ++ (P.map (fun y => (y.1, lessP p (rd y.2 (c : Int)) h y.2)) ++ [(c, h)]).map Prod.snd := fun r hr => by
        rcases List.mem_append.1 hr with hr | hr
        · exact List.mem_append_left _ (List.mem_map_of_mem hr)
        · obtain ⟨y, hy, rfl⟩ := List.mem_map.1 hr
          refine List.mem_append_right _ (List.mem_map.2 ⟨(y.1, lessP p (rd y.2 (c : Int)) h y.2), List.mem_append_left _ (List.mem_map.2 ⟨y, hy, rfl⟩), rfl⟩)
      have hhm : h ∈ ((L.eraseIdx i).map fun r => lessP p (rd r (c : Int)) h r) ++ (P.map (fun y => (y.1, lessP p (rd y.2 (c : Int)) h y.2)) ++ [(c, h)]).map Prod.snd :=
        List.mem_append_right _ (List.mem_map.2 ⟨(c, h), by simp, rfl⟩)
      have hto : ∀ r, r ∈ L ++ P.map Prod.snd → Sp p w (((L.eraseIdx i).map fun r => lessP p (rd r (c : Int)) h r) ++ (P.map (fun y => (y.1, lessP p (rd y.2 (c : Int)) h y.2)) ++ [(c, h)]).map Prod.snd) (fn r) := fun r hr => by
        have hcase : r = x ∨ r ∈ L.eraseIdx i ++ P.map Prod.snd := by
          rcases List.mem_append.1 hr with hr | hr
          · rcases (Kw hi).1 hr with h1 | h1
            · exact .inl (h1.trans hxe)
            · exact .inr (List.mem_append_left _ h1)
          · exact .inr (List.mem_append_right _ hr)
        rcases hcase with rfl | hr2
        · exact ((Sp.mem hhm).scale (fn r c)).congr hxs
        · refine ((Sp.mem (hnewm r hr2)).sum ((Sp.mem hhm).scale (fn r c))).congr fun j hj => ?_
          rw [hfl r (hold r hr) j hj]
          exact Qk 1 (Va (fn r j - fn r c * fn h j) p) (by omega)
      have hfrom_h : Sp p w (L ++ P.map Prod.snd) (fn h) := ((Sp.mem (List.mem_append_left _ hxm)).scale b).congr fun j hj => by
        rw [hfh j hj]
        exact Qk (-1) (Va (fn x j * b) p) (by rw [Int.mul_comm b]; omega)
      have hfrom : ∀ r, r ∈ ((L.eraseIdx i).map fun r => lessP p (rd r (c : Int)) h r) ++ (P.map (fun y => (y.1, lessP p (rd y.2 (c : Int)) h y.2)) ++ [(c, h)]).map Prod.snd → Sp p w (L ++ P.map Prod.snd) (fn r) := fun r hr => by
        have hcase : r = h ∨ ∃ q, q ∈ L ++ P.map Prod.snd ∧ r = lessP p (rd q (c : Int)) h q := by
          rcases List.mem_append.1 hr with hr | hr
          · obtain ⟨q, hq, rfl⟩ := List.mem_map.1 hr
            exact .inr ⟨q, List.mem_append_left _ (List.mem_of_mem_eraseIdx hq), rfl⟩
          · obtain ⟨z, hz, rfl⟩ := List.mem_map.1 hr
            rcases List.mem_append.1 hz with hz | hz
            · obtain ⟨y, hy, rfl⟩ := List.mem_map.1 hz
              exact .inr ⟨y.2, List.mem_append_right _ (List.mem_map_of_mem hy), rfl⟩
            · have : z = (c, h) := by simpa using hz
              subst this; exact .inl rfl
        rcases hcase with rfl | ⟨q, hq, rfl⟩
        · exact hfrom_h
        · refine ((Sp.mem hq).sum (hfrom_h.scale (-(fn q c)))).congr fun j hj => ?_
          rw [hfl q (hold q hq) j hj]
          exact Qk (-1) (Va (fn q j - fn q c * fn h j) p) (by grind)
      exact ⟨Q, hq1, hq2, hQ, fun r hr => Sp.sub hq3 (hto r hr), fun z hz => Sp.sub hfrom (hq4 z hz)⟩
theorem Qn {p : Int} (hp : primeB p = true) {w : Nat} {L : List (List Int)} (hL : okR p w L) :
    ∃ Q : List (Nat × List Int), redP p w 0 L [] = Q.map Prod.snd ∧ headsP p w 0 L [] = Q.map (fun x => (x.1 : Int)) ∧ Rref p w Q ∧ (∀ r ∈ L, Sp p w (Q.map Prod.snd) (fn r)) ∧ ∀ x ∈ Q, Sp p w L (fn x.2) := by
  have h := Yc hp w 0 L [] (by omega) hL ⟨by simp, by simp, by simp, by simp, by simp, by simp⟩ (by simp) (fun r _ j hj => absurd hj (by omega))
  simpa using h
theorem Kx {p : Int} (hp : primeB p = true) {w : Nat} {L M : List (List Int)} (hL : okR p w L) (hM : okR p w M) (h : ∀ r ∈ L, Sp p w M (fn r)) : rankP p w L ≤ rankP p w M := by
  have hb := Qa hp
  obtain ⟨P, e1, _, hP, _, h2⟩ := Qn hp hL
  obtain ⟨Q, e3, _, hQ, h4, _⟩ := Qn hp hM
  rw [rankP, rankP, e1, e3, List.length_map, List.length_map]
  exact hP.len_le (by omega) hQ fun x hx => Sp.sub h4 (Sp.sub h (h2 x hx))
theorem Ky {p : Int} (hp : primeB p = true) {w : Nat} {L M : List (List Int)} (hL : okR p w L) (hM : okR p w M) (h : ∀ r ∈ L, Sp p w M (fn r)) (k : ∀ r ∈ M, Sp p w L (fn r)) : redP p w 0 L [] = redP p w 0 M [] := by
  have hb := Qa hp
  obtain ⟨P, e1, _, hP, h1, h2⟩ := Qn hp hL
  obtain ⟨Q, e3, _, hQ, h4, h5⟩ := Qn hp hM
  rw [e1, e3, hP.unique (by omega) hQ (fun x hx => Sp.sub h4 (Sp.sub h (h2 x hx))) (fun x hx => Sp.sub h1 (Sp.sub k (h5 x hx)))]
theorem Ue {p : Int} {w : Nat} (L : List (List Int)) : rankP p w L ≤ L.length := by
  have := Qx p w 0 L []
  simpa [rankP] using this
def placeB (p : Int) (a : List Int) : Bool := numsB p a 4 && monicB a
theorem Yd (p : Int) (a : List Int) : impl_isPlace.f p a = some (placeB p a) := by
  unfold impl_isPlace.f placeB
  rw [show (4 : Int) = ((4 : Nat) : Int) from rfl, Yo]
  cases numsB p a 4 <;> rfl
theorem Uf (M : List (List Int)) {w : Nat} (hw : w ≤ 1000) (hM : ∀ r ∈ M, r.length = w) (hl : M.length ≤ 1000000) : ∀ (d i : Nat), i + d = M.length → Ev (fun k => impl_spanOf.l0 k (M.take i).flatten M (M.length : Int) (i : Int)) M.flatten
  | 0, i, h => by
    refine Ev.step (f := fun _ => some M.flatten) (fun k => ?_) (Ev.now _)
    rw [impl_spanOf.l0, if_neg (by omega), List.take_of_length_le (by omega)]
  | d + 1, i, h => by
    have hi : i < M.length := by omega
    refine Ev.step (f := fun k => impl_spanOf.l0 k (M.take (i + 1)).flatten M (M.length : Int) ((i + 1 : Nat) : Int)) (fun k => ?_) (Uf M hw hM hl d (i + 1) (by omega))
    have e1 : (M.take (i + 1)).flatten = (M.take i).flatten ++ M.getD i [] := by
      rw [List.take_add_one, List.flatten_append, List.getD_eq_getElem?_getD, List.getElem?_eq_getElem hi]; simp
    have e2 : rd_L2 M (i : Int) = M.getD i [] := by simp [rd_L2]
    have h1 : (M.take i).flatten.length = i * w := by rw [Vn _ (fun r hr => hM r (List.mem_of_mem_take hr)), List.length_take, Nat.min_eq_left (by omega)]
    have h2 : (M.getD i []).length = w := hM _ (Qe hi)
    have h3 : i * w ≤ 1000000 * 1000 := Nat.mul_le_mul (by omega) hw
    rw [impl_spanOf.l0, if_pos (by omega), if_pos (by omega), if_pos (by omega), e2, if_pos (by omega), e1, wsm (by omega) (by omega)]
    rfl
theorem Ug {p : Int} (hp : primeB p = true) {w : Nat} (hw : w ≤ 1000) (L : List (List Int)) (hL : okR p w L) (hl : L.length ≤ 1000) : Ev (fun k => impl_spanOf.f k p L) (spanP p w L) := by
  unfold impl_spanOf.f
  have hb := Qa hp
  have hlen := Qx p w 0 L []
  simp at hlen
  refine Ev.bind (Yv hp L (by omega) (by omega) hL) ?_
  have h := Uf (redP p w 0 L []) hw (fun r hr => (Qq (by omega) w 0 L [] hL (Qc p w) r hr).1) (by omega) (redP p w 0 L []).length 0 (by omega)
  simpa [spanP] using h
theorem Uh (l : List Int) (h : 4 ≤ l.length) : impl_rowsOf.f l = some [l.take 4, l.drop 4] := by
  rw [impl_rowsOf.f, if_pos (by omega)]
theorem Ui (a b : List Int) (hab : a.length = b.length) (hl : a.length ≤ 1000000000) : ∀ (d i : Nat), i + d = a.length → Ev (fun k => slices_Equal_int_int.l0 k a b (a.length : Int) (i : Int)) (decide (a.drop i = b.drop i))
  | 0, i, h => by
    refine Ev.step (f := fun _ => some true) (fun k => ?_) ?_
    · rw [slices_Equal_int_int.l0, if_neg (by omega)]
    · rw [List.drop_eq_nil_of_le (by omega), List.drop_eq_nil_of_le (by omega)]; exact Ev.now _
  | d + 1, i, h => by
    have ih := Ui a b hab hl d (i + 1) (by omega)
    rw [Qm a i (by omega), Qm b i (by omega)]
    by_cases hz : rd a (i : Int) = rd b (i : Int)
    · refine Ev.step (f := fun k => slices_Equal_int_int.l0 k a b (a.length : Int) ((i + 1 : Nat) : Int)) (fun k => ?_) ?_
      · rw [slices_Equal_int_int.l0, if_pos (by omega), if_pos (by omega), if_pos (by omega), if_pos (by omega), if_pos hz, wsm (by omega) (by omega)]; rfl
      · simpa [hz] using ih
    · refine Ev.step (f := fun _ => some false) (fun k => ?_) ?_
      · rw [slices_Equal_int_int.l0, if_pos (by omega), if_pos (by omega), if_pos (by omega), if_pos (by omega), if_neg hz]
      · rw [decide_eq_false (by simp [hz])]
        exact Ev.now false
theorem Uj (a b : List Int) (hl : a.length ≤ 1000000000) : Ev (fun k => slices_Equal_int_int.f k a b) (decide (a = b)) := by
  unfold slices_Equal_int_int.f
  by_cases h : a.length = b.length
  · refine Ev.yes (by omega) ?_
    simpa using Ui a b h hl a.length 0 (by omega)
  · refine Ev.no (by omega) ?_
    rw [decide_eq_false (fun e => h (by rw [e]))]
    exact Ev.now _
theorem Kz (p : Int) (l : List Int) : Ev (fun k => impl_isSpaceLine.f k p l) (lineB p l) := by
  unfold impl_isSpaceLine.f lineB
  refine Ev.bind (Ev.k (Yo p l 8)) ?_
  cases hn : numsB p l 8 with
  | false => exact Ev.no (by simp) (Ev.now _)
  | true =>
    obtain ⟨hp, hl, _⟩ := Qb hn
    have hb := Qa hp
    refine Ev.yes rfl ?_
    refine Ev.bind (Ev.k (Uh l (by omega))) ?_
    refine Ev.bind (Ug hp (by omega) _ (Qj hn) (by simp)) (Ev.bind (Uj _ _ ?_) ?_)
    · rw [Vo (by omega) (Qj hn)]
      have h2 := Qx p 4 0 [l.take 4, l.drop 4] []
      have h3 : rankP p 4 [l.take 4, l.drop 4] ≤ 2 := by simpa [rankP] using h2
      omega
    · rw [Bool.true_and]; exact Ev.now _
def onB (p : Int) (a l : List Int) : Bool := placeB p a && lineB p l && decide (rankP p 4 [l.take 4, l.drop 4, a] = 2)
theorem Qh {p : Int} {a : List Int} (h : placeB p a = true) : numsB p a 4 = true ∧ monicB a = true := by
  rw [placeB, Bool.and_eq_true] at h; exact h
theorem Ql {p : Int} {a : List Int} (h : numsB p a 4 = true) : a.length = 4 ∧ ∀ x ∈ a, 0 ≤ x ∧ x < p := (Qb h).2
theorem Ye {p : Int} {a l : List Int} (hl : numsB p l 8 = true) (ha : numsB p a 4 = true) : okR p 4 [l.take 4, l.drop 4, a] := Vd (Qj hl) (Qf (Ql ha) (Qc p 4))
theorem Ja {p : Int} {a l : List Int} (hl : numsB p l 8 = true) (ha : numsB p a 4 = true) : Ev (fun k => impl_isOn.f k p a l) (decide (rankP p 4 [l.take 4, l.drop 4, a] = 2)) := by
  unfold impl_isOn.f
  refine Ev.bind (Ev.k (Uh l (by have := (Qb hl).2.1; omega))) (Ev.yes (by simp) ?_)
  refine Ev.bind (Yv (Qb hl).1 (w := 4) _ (by omega) (by simp) (Ye hl ha)) ?_
  have e : (((redP p 4 0 ([l.take 4, l.drop 4] ++ [a]) []).length : Int) == 2) = decide (rankP p 4 [l.take 4, l.drop 4, a] = 2) := by
    rw [rankP, Bool.eq_iff_iff]; simp; omega
  rw [e]; exact Ev.now _
theorem Jb (p : Int) (a l : List Int) : Ev (fun k => impl_SpaceOn.f k p a l) (onB p a l) := by
  unfold impl_SpaceOn.f onB
  refine Ev.bind (Ev.k (Yd p a)) ?_
  cases ha : placeB p a with
  | false => exact Ev.no (by simp) (Ev.now _)
  | true =>
    refine Ev.yes rfl (Ev.bind (Kz p l) ?_)
    cases hl : lineB p l with
    | false => exact Ev.no (by simp) (Ev.now _)
    | true => exact Ev.yes rfl (Ev.bind (Ja (Qg hl) (Qh ha).1) (Ev.now _))
theorem Yf : ∀ (l : List Int), monicB l = true → ∃ h, h < l.length ∧ fn l h = 1 ∧ ∀ j, j < h → fn l j = 0
  | [], h => by simp [monicB] at h
  | x :: l, h => by
    by_cases hx : x = 0
    · subst hx
      have h' : monicB l = true := by simpa [monicB] using h
      obtain ⟨i, h1, h2, h3⟩ := Yf l h'
      have e : ∀ j : Nat, fn (0 :: l) (j + 1) = fn l j := fun j => by simp [fn, rd]
      refine ⟨i + 1, by simpa using h1, by rw [e]; exact h2, fun j hj => ?_⟩
      cases j with
      | zero => simp [fn, rd]
      | succ j => rw [e]; exact h3 j (by omega)
    · have h1 : x = 1 := by simpa [monicB, hx] using h
      subst h1
      exact ⟨0, by simp, by simp [fn, rd], fun j hj => absurd hj (by omega)⟩
theorem Uk {p : Int} {w : Nat} (hp : 2 ≤ p) {a : List Int} (ha : a.length = w ∧ ∀ x ∈ a, 0 ≤ x ∧ x < p) (hm : monicB a = true) {x : Nat × List Int} (hx : Rref p w [x]) (hs : Sp p w [x.2] (fn a)) : a = x.2 := by
  obtain ⟨h, h1, h2, h3⟩ := Yf a hm
  have hl := hx.lead (v := fn a) hs (j := h) (by omega) (fun i hi => by rw [h3 i hi]; exact Int.dvd_zero p) (by rw [h2]; exact Vt hp)
  obtain ⟨y, hy, e⟩ := hl
  have hyx : y = x := by simpa using hy
  subst hyx
  refine Vv ha.1 (hx.ok y (by simp)).1 fun j hj => Vu (Qu ha j hj) (Qu (hx.ok y (by simp)) j hj) ?_
  have := hx.coord (v := fn a) hs j hj
  have e2 : cs [y] (fn a) j = fn y.2 j := by simp [cs, e, h2]
  rwa [e2] at this
theorem Jc {p : Int} {w : Nat} (hp : 2 ≤ p) {a : List Int} (ha : a.length = w) (hm : monicB a = true) : ¬ Sp p w [] (fn a) := fun hs => by
  obtain ⟨h, h1, h2, h3⟩ := Yf a hm
  cases hs with
  | zero _ hz => have := hz h (by omega); rw [h2] at this; exact Vt hp this
  | add _ u r t hr _ _ => exact absurd hr (by simp)
theorem Yg {p : Int} {a b : List Int} (ha : placeB p a = true) (hb : placeB p b = true) (hne : a ≠ b) : rankP p 4 [a, b] = 2 := by
  obtain ⟨ha1, ha2⟩ := Qh ha
  obtain ⟨hb1, hb2⟩ := Qh hb
  have hp := (Qb ha1).1
  have hbd := Qa hp
  have hok : okR p 4 [a, b] := Qf (Ql ha1) (Qf (Ql hb1) (Qc p 4))
  have hle := Ue (p := p) (w := 4) [a, b]
  obtain ⟨P, e1, _, hP, h1, h2⟩ := Qn hp hok
  have hl : rankP p 4 [a, b] = P.length := by rw [rankP, e1, List.length_map]
  match P, hP, h1, hl with
  | [], _, h1, _ => exact absurd (h1 a (by simp)) (Jc (by omega) (Ql ha1).1 ha2)
  | [x], hP, h1, _ => exact absurd ((Uk (by omega) (Ql ha1) ha2 hP (h1 a (by simp))).trans (Uk (by omega) (Ql hb1) hb2 hP (h1 b (by simp))).symm) hne
  | _ :: _ :: _, _, _, hl => simp at hl hle; omega
theorem Jd {p : Int} {a : List Int} (ha : placeB p a = true) : rankP p 4 [a, a] ≠ 2 := by
  have ha1 := (Qh ha).1
  have hok : okR p 4 [a] := Qf (Ql ha1) (Qc p 4)
  have h := Kx (Qb ha1).1 (Qf (Ql ha1) hok) hok (fun r hr => by
    have : r = a := by simpa using hr
    subst this; exact Sp.mem (by simp))
  have h2 := Ue (p := p) (w := 4) [a]
  simp at h2
  omega
def throughP (p : Int) (a b : List Int) : List Int × Bool := if placeB p a = true ∧ placeB p b = true ∧ a ≠ b then (spanP p 4 [a, b], true) else ([], false)
theorem Vh {p : Int} {a b : List Int} (ha : placeB p a = true) (hb : placeB p b = true) : okR p 4 [a, b] := Qf (Ql (Qh ha).1) (Qf (Ql (Qh hb).1) (Qc p 4))
theorem Je (p : Int) (a b : List Int) : Ev (fun k => impl_SpaceThrough.f k p a b) (throughP p a b) := by
  unfold impl_SpaceThrough.f throughP
  refine Ev.bind (Ev.k (Yd p a)) ?_
  cases ha : placeB p a with
  | false => rw [if_neg (by simp)]; exact Ev.no (by simp) (Ev.now _)
  | true =>
    refine Ev.yes rfl (Ev.bind (Ev.k (Yd p b)) ?_)
    cases hb : placeB p b with
    | false => rw [if_neg (by simp)]; exact Ev.no (by simp) (Ev.now _)
    | true =>
      have hn := Qb (Qh ha).1
      refine Ev.yes rfl (Ev.bind (Uj a b (by omega)) ?_)
      by_cases e : a = b
      · rw [if_neg (by simp [e]), decide_eq_true e]; exact Ev.yes rfl (Ev.now _)
      · rw [if_pos ⟨rfl, rfl, e⟩, decide_eq_false e]
        exact Ev.no (by simp) (Ev.bind (Ug hn.1 (by omega) _ (Vh ha hb) (by simp)) (Ev.now _))
theorem Jf {p : Int} {a b : List Int} (h : (throughP p a b).2 = true) : (throughP p a b).1.length = 8 := by
  unfold throughP at h ⊢
  by_cases hc : placeB p a = true ∧ placeB p b = true ∧ a ≠ b
  · rw [if_pos hc]
    have hn := Qb (Qh hc.1).1
    have hb := Qa hn.1
    rw [Vo (by omega) (Vh hc.1 hc.2.1), Yg hc.1 hc.2.1 hc.2.2]
  · rw [if_neg hc] at h; simp at h
theorem Jg {p : Int} (hp : primeB p = true) {L : List (List Int)} (hL : okR p 4 L) (hl : L.length < 1000000) : Ev (fun k => spec_l7Of.f k p L) (if rankP p 4 L = 2 then (spanP p 4 L, true) else ([], false)) := by
  unfold spec_l7Of.f
  have hb := Qa hp
  refine Ev.bind (Yb hp (w := 4) (by omega) L hL hl) ?_
  have hro := Qq (p := p) (by omega) 4 0 L [] hL (Qc p 4)
  have hrk : rankP p 4 L = (redP p 4 0 L []).length := rfl
  have hsp : spanP p 4 L = (redP p 4 0 L []).flatten := rfl
  rw [hrk, hsp]
  generalize redP p 4 0 L [] = M at *
  by_cases h2 : M.length = 2
  · match M, h2 with
    | [x, y], h2 =>
      have hx := (hro x (by simp)).1
      have hy := (hro y (by simp)).1
      have hend : Ev (fun _ => some (x ++ y, true)) (if [x, y].length = 2 then ([x, y].flatten, true) else ([], false)) := by
        rw [if_pos h2]
        simp only [List.flatten_cons, List.flatten_nil, List.append_nil]
        exact Ev.now _
      exact Ev.yes h2 (Ev.yes ⟨by show x.length < _; omega, by show y.length < _; omega⟩ hend)
  · refine Ev.no h2 ?_
    rw [if_neg h2]
    exact Ev.now _
theorem Jh {p : Int} (hp : primeB p = true) {l : List Int} (hr : ∀ x ∈ l, 0 ≤ x ∧ x < p) : (!(l.all fun x => x == 0) && decide (rowP p l = l)) = monicB l := by
  have hb := Qa hp
  unfold monicB rowP headP
  cases h : l.find? (fun x => x != 0) with
  | none =>
    have : (l.all fun x => x == 0) = true := by
      rw [List.all_eq_true]
      intro x hx
      have := List.find?_eq_none.1 h x hx
      simpa using this
    rw [this]; rfl
  | some y =>
    have hy := List.mem_of_find?_eq_some h
    have hy0 : y ≠ 0 := by simpa using List.find?_some h
    have hall : (l.all fun x => x == 0) = false := by
      rw [Bool.eq_false_iff]
      intro e
      exact hy0 (by simpa using List.all_eq_true.1 e y hy)
    rw [hall]
    simp only [Bool.not_false, Bool.true_and, Option.getD_some]
    rw [Bool.eq_iff_iff, decide_eq_true_iff, beq_iff_eq]
    constructor
    · intro e
      have e1 : y * invP p y % p = y := by
        have h2 : ∀ (m : List Int), (m.map fun x => x * invP p y % p) = m → y ∈ m → y * invP p y % p = y := by
          intro m
          induction m with
          | nil => intro _ h; simp at h
          | cons z m ih =>
            intro e h
            rw [List.map_cons] at e
            injection e with e1 e2
            rcases List.mem_cons.1 h with rfl | h
            · exact e1
            · exact ih e2 h
        exact h2 l e hy
      have := (Qo hp (hr y hy).1 (hr y hy).2).2.2.2.1 hy0
      rw [this] at e1
      rw [← e1]
    · intro e
      injection e with e
      subst e
      rw [Uz hp]
      refine (List.map_congr_left (g := id) fun x hx => ?_).trans (List.map_id _)
      rw [Int.mul_one, Int.emod_eq_of_lt (hr x hx).1 (hr x hx).2]; rfl
theorem Ul {p : Int} (hp : primeB p = true) (x : Int) : pl_lowB p x = (decide (0 ≤ x) && decide (x < p)) := by
  have hb := Qa hp
  rw [pl_lowB, wsm (by omega) (by omega), show decide (x ≤ p - 1) = decide (x < p) from decide_eq_decide.2 (by omega)]
theorem Yh (p : Int) (l : List Int) : Ev (fun k => spec_PlaceIn.f k p l) (placeB p l) := by
  unfold spec_PlaceIn.f
  refine Ev.bind (Ev.k (Vl p)) ?_
  cases hp : primeB p with
  | false =>
    refine Ev.no (by simp) ?_
    rw [show placeB p l = false from by simp [placeB, numsB, hp]]
    exact Ev.now _
  | true =>
    refine Ev.yes rfl ?_
    by_cases hl : l.length = 4
    · refine Ev.yes hl ?_
      by_cases ha : l.all (pl_lowB p) = true
      · refine Ev.yes ha ?_
        have hr : ∀ x ∈ l, 0 ≤ x ∧ x < p := fun x hx => by
          have h1 := List.all_eq_true.1 ha x hx
          rw [Ul hp] at h1
          simpa using h1
        refine Ev.bind (Yr hp l hr (by omega)) (Ev.bind (Ym l (by omega)) (Ev.yes (by simp [rowP, hl]) ?_))
        have e : (!(l.all fun x => x == 0) && (rowP p l == l)) = placeB p l := by
          rw [placeB, Vc hp hl hr, Bool.true_and, ← Jh hp hr]
          congr 1
          rw [Bool.eq_iff_iff]; simp
        rw [e]
        exact Ev.now _
      · refine Ev.no ha ?_
        rw [show placeB p l = false from by
          cases hh : placeB p l with
          | false => rfl
          | true =>
            refine absurd (List.all_eq_true.2 fun x hx => ?_) ha
            rw [placeB, Bool.and_eq_true] at hh
            rw [Ul hp]
            simpa using (Qb hh.1).2.2 x hx]
        exact Ev.now _
    · refine Ev.no hl ?_
      rw [show placeB p l = false from by
        cases hh : placeB p l with
        | false => rfl
        | true =>
          rw [placeB, Bool.and_eq_true] at hh
          exact absurd (Qb hh.1).2.1 hl]
      exact Ev.now _
theorem Ji (p : Int) (a b : List Int) : Ev (fun k => spec_SpaceThrough.f k p a b) (throughP p a b) := by
  unfold spec_SpaceThrough.f throughP
  refine Ev.bind (Yh p a) ?_
  cases ha : placeB p a with
  | false => rw [if_neg (by simp)]; exact Ev.no (by simp) (Ev.now _)
  | true =>
    refine Ev.yes rfl (Ev.bind (Yh p b) ?_)
    cases hb : placeB p b with
    | false => rw [if_neg (by simp)]; exact Ev.no (by simp) (Ev.now _)
    | true =>
      have hn := Qb (Qh ha).1
      refine Ev.yes rfl (Ev.bind (Jg hn.1 (Vh ha hb) (by simp)) ?_)
      by_cases e : a = b
      · subst e
        rw [if_neg (Jd ha), if_neg (by simp)]; exact Ev.now _
      · rw [if_pos (Yg ha hb e), if_pos ⟨rfl, rfl, e⟩]; exact Ev.now _
theorem Jj (b : List Int) (hb : bytesOk b) (p s : Int) (hp : 1 ≤ p ∧ p ≤ 31) (h0 : 0 ≤ s) (h1 : s ≤ 800000) : ∃ l s', Ev (fun k => spec_l92Line.f k b s p) (l, s') ∧ l.length ≤ 8 ∧ s ≤ s' ∧ s' ≤ s + 200 := by
  obtain ⟨v, hv, hv0, hv1⟩ := Qi b hb s 27 h0 (by omega)
  have hend : ∀ (c : List Int) (s2 : Int), c.length ≤ 8 → s ≤ s2 → s2 ≤ s + 50 → ∀ x : Bool, ∃ l s', Ev (fun k => spec_l92Line.j0 k p c x b s2) (l, s') ∧ l.length ≤ 8 ∧ s ≤ s' ∧ s' ≤ s + 200 := by
    intro c s2 hc g1 g2 x
    cases x with
    | true => exact ⟨c, s2, Ev.step (f := fun _ => some (c, s2)) (fun k => by rw [spec_l92Line.j0, if_pos rfl]) (Ev.now _), hc, g1, by omega⟩
    | false =>
      obtain ⟨a1, t1, e1, _, l1, l2⟩ := Vk b hb p s2 hp (by omega) (by omega)
      obtain ⟨a2, t2, e2, _, l3, l4⟩ := Vk b hb p t1 hp (by omega) (by omega)
      have e3 := Ji p a1 a2
      have hlen := Jf (p := p) (a := a1) (b := a2)
      generalize throughP p a1 a2 = t at *
      obtain ⟨t, ok⟩ := t
      cases ok with
      | true =>
        have h8 : t.length = 8 := hlen rfl
        obtain ⟨u, hu, _, _⟩ := Qi b hb t2 24 (by omega) (by omega)
        by_cases hz : u = 0
        · refine ⟨t.take 7, t2 + 1, by
            refine Ev.step (fun k => by rw [spec_l92Line.j0, if_neg (by simp)]) (Ev.bind e1 (Ev.bind e2 (Ev.bind e3 (Ev.yes rfl (Ev.bind hu ?_)))))
            exact Ev.yes hz (Ev.yes (by show (7 : Int) ≤ (t.length : Int); omega) (Ev.now _)), by simp; omega, by omega, by omega⟩
        · exact ⟨t, t2 + 1, by
            refine Ev.step (fun k => by rw [spec_l92Line.j0, if_neg (by simp)]) (Ev.bind e1 (Ev.bind e2 (Ev.bind e3 (Ev.yes rfl (Ev.bind hu ?_)))))
            exact Ev.no hz (Ev.now _), by omega, by omega, by omega⟩
      | false =>
        exact ⟨[1, 0, 0, 0, 0, 1, 0, 0], t2, by
          refine Ev.step (fun k => by rw [spec_l92Line.j0, if_neg (by simp)]) (Ev.bind e1 (Ev.bind e2 (Ev.bind e3 ?_)))
          exact Ev.no (by simp) (Ev.now _), by simp, by omega, by omega⟩
  have hc := Ki p v
  have hcl := Kd p v
  generalize clP p v = t at *
  obtain ⟨t, ok⟩ := t
  unfold spec_l92Line.f
  cases ok with
  | true =>
    obtain ⟨u, hu, _, _⟩ := Qi b hb (s + 1) 2 (by omega) (by omega)
    obtain ⟨l, s', h2, h3, h4, h5⟩ := hend t (s + 1 + 1) hcl (by omega) (by omega) (u == 0)
    exact ⟨l, s', Ev.bind hv (Ev.bind hc (Ev.yes rfl (Ev.bind hu h2))), h3, h4, h5⟩
  | false =>
    obtain ⟨l, s', h2, h3, h4, h5⟩ := hend t (s + 1) hcl (by omega) (by omega) false
    exact ⟨l, s', Ev.bind hv (Ev.bind hc (Ev.no (by simp) h2)), h3, h4, h5⟩
theorem Jk {p : Int} (hp : primeB p = true) {w : Nat} {L : List (List Int)} (hL : okR p w L) : redP p w 0 (redP p w 0 L []) [] = redP p w 0 L [] := by
  have hb := Qa hp
  obtain ⟨P, e1, _, hP, h1, h2⟩ := Qn hp hL
  have hok := Qq (p := p) (by omega) w 0 L [] hL (Qc p w)
  rw [e1] at hok ⊢
  rw [← e1]
  refine (Ky hp (e1 ▸ hok) hL (fun r hr => ?_) (fun r hr => ?_))
  · rw [e1] at hr
    obtain ⟨x, hx, rfl⟩ := List.mem_map.1 hr
    exact h2 x hx
  · rw [e1]; exact h1 r hr
theorem Jl {x y l : List Int} (hx : x.length = 4) (h : [x, y].flatten = l) : l.take 4 = x ∧ l.drop 4 = y := by
  subst h
  simp [← hx]
theorem Jm {p : Int} (hp : primeB p = true) {L : List (List Int)} (hL : okR p 4 L) (h2 : rankP p 4 L = 2) :
    lineB p (spanP p 4 L) = true ∧ redP p 4 0 L [] = [(spanP p 4 L).take 4, (spanP p 4 L).drop 4] := by
  have hb := Qa hp
  have hro := Qq (p := p) (by omega) 4 0 L [] hL (Qc p 4)
  have hself := Jk hp hL
  rw [rankP] at h2
  have hsp : spanP p 4 L = (redP p 4 0 L []).flatten := rfl
  generalize hM : redP p 4 0 L [] = M at *
  match M, h2 with
  | [x, y], _ =>
    have hx := hro x (by simp)
    have hy := hro y (by simp)
    obtain ⟨e1, e2⟩ := Jl hx.1 hsp.symm
    have hl8 : (spanP p 4 L).length = 8 := by rw [hsp]; simp; omega
    refine ⟨?_, by rw [e1, e2]⟩
    rw [lineB, e1, e2, Vc hp hl8 (fun z hz => ?_), Bool.true_and]
    · rw [spanP, hself, ← hsp]; exact decide_eq_true rfl
    · rw [hsp] at hz
      simp only [List.flatten_cons, List.flatten_nil, List.append_nil, List.mem_append] at hz
      rcases hz with hz | hz
      · exact hx.2 z hz
      · exact hy.2 z hz
theorem Jn {p : Int} {l : List Int} (h : lineB p l = true) : redP p 4 0 [l.take 4, l.drop 4] [] = [l.take 4, l.drop 4] := by
  have hn := Qg h
  have hp := (Qb hn).1
  have hs := (Jm hp (Qj hn) (Vf h)).2
  rw [lineB, Bool.and_eq_true] at h
  rw [of_decide_eq_true h.2] at hs
  exact hs
theorem Um : ∀ (l : List Int) (h : Nat), h < l.length → fn l h = 1 → (∀ j, j < h → fn l j = 0) → monicB l = true
  | [], _, h, _, _ => absurd h (by simp)
  | x :: l, 0, _, h1, _ => by
    have : x = 1 := by simpa [fn, rd] using h1
    subst this; rfl
  | x :: l, h + 1, hl, h1, hz => by
    have e : ∀ j : Nat, fn (x :: l) (j + 1) = fn l j := fun j => by simp [fn, rd]
    have hx : x = 0 := by simpa [fn, rd] using hz 0 (by omega)
    have ih := Um l h (by simpa using hl) (by rw [← e]; exact h1) (fun j hj => by rw [← e]; exact hz (j + 1) (by omega))
    subst hx
    simpa [monicB] using ih
theorem Jo {p : Int} {l : List Int} (h : lineB p l = true) : placeB p (l.take 4) = true ∧ placeB p (l.drop 4) = true := by
  have hn := Qg h
  have hp := (Qb hn).1
  obtain ⟨P, e1, _, hP, _, _⟩ := Qn hp (Qj hn)
  rw [Jn h] at e1
  have key : ∀ r ∈ [l.take 4, l.drop 4], placeB p r = true := fun r hr => by
    have hok := Qj hn r hr
    rw [e1] at hr
    obtain ⟨x, hx, rfl⟩ := List.mem_map.1 hr
    rw [placeB, Vc hp hok.1 hok.2, Bool.true_and]
    exact Um x.2 x.1 (by have := hP.lt x hx; omega) (hP.one x hx) (hP.low x hx)
  exact ⟨key _ (by simp), key _ (by simp)⟩
theorem Jp : ∀ {P Q : List (Nat × List Int)}, P.Pairwise (fun x y => x.1 < y.1) → Q.Pairwise (fun x y => x.1 < y.1) → (∀ x ∈ P, ∃ y ∈ Q, y.1 = x.1) → P.length = Q.length → ∀ y ∈ Q, ∃ x ∈ P, x.1 = y.1 := by
  intro P Q hp hq h hl y hy
  by_cases hex : ∃ x ∈ P, x.1 = y.1
  · exact hex
  · exfalso
    obtain ⟨A, B, rfl⟩ := List.append_of_mem hy
    rw [List.pairwise_append, List.pairwise_cons] at hq
    have hq2 : (A ++ B).Pairwise fun x y => x.1 < y.1 := by
      rw [List.pairwise_append]
      exact ⟨hq.1, hq.2.1.2, fun a ha b hb => hq.2.2 a ha b (by simp [hb])⟩
    have := Vw hp hq2 fun z hz => by
      obtain ⟨u, hu, e2⟩ := h z hz
      refine ⟨u, ?_, e2⟩
      simp only [List.mem_append, List.mem_cons] at hu ⊢
      rcases hu with hu | rfl | hu
      · exact .inl hu
      · exact absurd ⟨z, hz, e2.symm⟩ hex
      · exact .inr hu
    simp at this hl
    omega
theorem Rref.unique_len {p : Int} {w : Nat} {P Q : List (Nat × List Int)} (hp : 2 ≤ p) (h : Rref p w P) (k : Rref p w Q) (hs : ∀ x ∈ P, Sp p w (Q.map Prod.snd) (fn x.2)) (hl : P.length = Q.length) : P = Q := by
  have hk := Jp h.inc k.inc (fun x hx => h.heads hp k hs hx) hl
  have key : ∀ x, x ∈ P → x ∈ Q := by
    intro x hx
    obtain ⟨y, hy, e⟩ := h.heads hp k hs hx
    have e2 : x.2 = y.2 := by
      refine Vv (h.ok x hx).1 (k.ok y hy).1 fun j hj => Vu (Qu (h.ok x hx) j hj) (Qu (k.ok y hy) j hj) ?_
      have h1 := k.coord (hs x hx) j hj
      have h2 : cs Q (fn x.2) j = fn y.2 j := by
        obtain ⟨A, B, e3, ha, hb⟩ := Vg k.inc hy
        have h3 : ∀ z, z ∈ Q → z.1 ≠ y.1 → fn x.2 z.1 * fn z.2 j = 0 := fun z hz hn => by
          obtain ⟨x', hx', e4⟩ := hk z hz
          rw [← e4, h.off x hx x' hx' (by rw [e4, ← e]; exact Ne.symm hn), Int.zero_mul]
        rw [cs]
        conv => lhs; rw [e3]
        rw [Vr _ y A B (fun z hz => h3 z (by rw [e3]; simp [hz]) (ha z hz)) (fun z hz => h3 z (by rw [e3]; simp [hz]) (hb z hz)), e, h.one x hx, Int.one_mul]
      rwa [h2] at h1
    have : x = y := Prod.ext e.symm e2
    rwa [this]
  refine Vs (key := Prod.fst) h.inc k.inc fun x => ⟨key x, fun hx => ?_⟩
  obtain ⟨y, hy, e⟩ := hk x hx
  have hyq := key y hy
  by_cases e2 : y = x
  · rwa [← e2]
  · exfalso
    obtain ⟨A, B, e3, ha, hb⟩ := Vg k.inc hx
    rw [e3, List.mem_append, List.mem_cons] at hyq
    rcases hyq with hyq | hyq | hyq
    · exact ha y hyq e
    · exact e2 hyq
    · exact hb y hyq e
theorem Un {p : Int} (hp : primeB p = true) {w : Nat} {L M : List (List Int)} (hL : okR p w L) (hM : okR p w M) (h : ∀ r ∈ L, Sp p w M (fn r)) (hr : rankP p w L = rankP p w M) : redP p w 0 L [] = redP p w 0 M [] ∧ ∀ r ∈ M, Sp p w L (fn r) := by
  have hb := Qa hp
  obtain ⟨P, e1, _, hP, h1, h2⟩ := Qn hp hL
  obtain ⟨Q, e3, _, hQ, h4, h5⟩ := Qn hp hM
  rw [rankP, rankP, e1, e3, List.length_map, List.length_map] at hr
  have e := hP.unique_len (by omega) hQ (fun x hx => Sp.sub h4 (Sp.sub h (h2 x hx))) hr
  refine ⟨by rw [e1, e3, e], fun r hr => ?_⟩
  refine Sp.sub (fun s hs => ?_) (h4 r hr)
  rw [← e] at hs
  obtain ⟨x, hx, rfl⟩ := List.mem_map.1 hs
  exact h2 x hx
theorem Jq {p : Int} {l : List Int} (h : lineB p l = true) : spanP p 4 [l.take 4, l.drop 4] = l := by
  rw [lineB, Bool.and_eq_true] at h; exact of_decide_eq_true h.2
theorem Jr {p : Int} {a l : List Int} (h : onB p a l = true) : Sp p 4 [l.take 4, l.drop 4] (fn a) := by
  rw [onB, Bool.and_eq_true, Bool.and_eq_true] at h
  obtain ⟨⟨ha, hl⟩, hr⟩ := h
  have hn := Qg hl
  have ha1 := (Qh ha).1
  have h1 := Un (Qb hn).1 (Qj hn) (Ye hn ha1) (fun r hr => Sp.mem (by
    simp only [List.mem_cons, List.not_mem_nil, or_false] at hr ⊢
    rcases hr with rfl | rfl
    · exact .inl rfl
    · exact .inr (.inl rfl))) (by rw [Vf hl, of_decide_eq_true hr])
  exact h1.2 a (by simp)
theorem Js {p : Int} {a b l : List Int} (hl : lineB p l = true) (ha : placeB p a = true) (hb : placeB p b = true) (hne : a ≠ b) (sa : Sp p 4 [l.take 4, l.drop 4] (fn a)) (sb : Sp p 4 [l.take 4, l.drop 4] (fn b)) : spanP p 4 [a, b] = l := by
  have hn := Qg hl
  have h1 := Un (Qb hn).1 (Vh ha hb) (Qj hn) (fun r hr => by
    simp only [List.mem_cons, List.not_mem_nil, or_false] at hr
    rcases hr with rfl | rfl
    · exact sa
    · exact sb) (by rw [Yg ha hb hne, Vf hl])
  rw [spanP, h1.1, ← spanP, Jq hl]
theorem Uo (a b : List Int) (hab : a.length = b.length) (hl : a.length ≤ 1000000000) : ∀ (d : Nat) (i : Nat), i + d = a.length → Ev (fun k => laws_sameInts.l0 k a b (i : Int)) (decide (a.drop i = b.drop i))
  | 0, i, h => by
    refine Ev.step (f := fun _ => some true) (fun k => ?_) ?_
    · rw [laws_sameInts.l0, if_neg (by omega)]
    · rw [List.drop_eq_nil_of_le (by omega), List.drop_eq_nil_of_le (by omega)]; exact Ev.now _
  | d + 1, i, h => by
    have ih := Uo a b hab hl d (i + 1) (by omega)
    rw [Qm a i (by omega), Qm b i (by omega)]
    by_cases hr : rd a (i : Int) = rd b (i : Int)
    · refine Ev.step (f := fun k => laws_sameInts.l0 k a b ((i + 1 : Nat) : Int)) (fun k => ?_) ?_
      · rw [laws_sameInts.l0, if_pos (by omega), if_pos (by omega), if_pos (by omega), if_pos hr, wsm (by omega) (by omega)]
        simp
      · simpa [hr] using ih
    · refine Ev.step (f := fun _ => some false) (fun k => ?_) ?_
      · rw [laws_sameInts.l0, if_pos (by omega), if_pos (by omega), if_pos (by omega), if_neg hr]
      · simpa [hr] using Ev.now false
theorem Up (a b : List Int) (hl : a.length ≤ 1000000000) : Ev (fun k => laws_sameInts.f k a b) (decide (a = b)) := by
  unfold laws_sameInts.f
  refine Ev.ite (fun h => ?_) (fun h => ?_)
  · simpa using Uo a b (by omega) hl a.length 0 (by omega)
  · rw [decide_eq_false (fun e => h (by rw [e]))]; exact Ev.now _
theorem Uq (a b : List Int) (hab : a.length ≤ b.length) (hl : a.length ≤ 1000000000) : ∀ (d i : Nat), i + d = a.length → Ev (fun k => spec_l7Same.l0 k a b (i : Int)) (decide (a.drop i = (b.take a.length).drop i))
  | 0, i, h => by
    refine Ev.step (f := fun _ => some true) (fun k => ?_) ?_
    · rw [spec_l7Same.l0, if_neg (by omega)]
    · rw [List.drop_eq_nil_of_le (by omega), List.drop_eq_nil_of_le (by simp; omega)]; exact Ev.now _
  | d + 1, i, h => by
    have ih := Uq a b hab hl d (i + 1) (by omega)
    have e : rd (b.take a.length) (i : Int) = rd b (i : Int) := by
      rw [Qd _ i (by simp; omega), Qd b i (by omega)]; simp
    rw [Qm a i (by omega), Qm (b.take a.length) i (by simp; omega), e]
    by_cases hz : rd a (i : Int) = rd b (i : Int)
    · refine Ev.step (f := fun k => spec_l7Same.l0 k a b ((i + 1 : Nat) : Int)) (fun k => ?_) ?_
      · rw [spec_l7Same.l0, if_pos (by omega), if_pos (by omega), if_pos (by omega), if_pos hz, wsm (by omega) (by omega)]; rfl
      · simpa [hz] using ih
    · refine Ev.step (f := fun _ => some false) (fun k => ?_) ?_
      · rw [spec_l7Same.l0, if_pos (by omega), if_pos (by omega), if_pos (by omega), if_neg hz]
      · rw [decide_eq_false (by simp [hz])]
        exact Ev.now false
theorem Jt (a b : List Int) (hab : a.length = b.length) (hl : a.length ≤ 1000000000) : Ev (fun k => spec_l7Same.f k a b) (decide (a = b)) := by
  unfold spec_l7Same.f
  have h := Uq a b (by omega) hl a.length 0 (by omega)
  rw [hab, List.take_length] at h
  simpa using h
theorem Ur {p : Int} (hp : primeB p = true) (x : Int) : lowB p x = (decide (0 ≤ x) && decide (x < p)) := by
  have hb := Qa hp
  rw [lowB, wsm (by omega) (by omega), show decide (x ≤ p - 1) = decide (x < p) from decide_eq_decide.2 (by omega)]
theorem Ju {M : List (List Int)} (h : M.length = 2) : M = [M.getD 0 [], M.getD 1 []] := by
  match M, h with
  | [x, y], _ => rfl
theorem Us (p : Int) (l : List Int) : Ev (fun k => spec_SpaceIn.f k p l) (lineB p l) := by
  unfold spec_SpaceIn.f
  refine Ev.bind (Ev.k (Vl p)) ?_
  cases hp : primeB p with
  | false =>
    refine Ev.no (by simp) ?_
    rw [show lineB p l = false from by simp [lineB, numsB, hp]]
    exact Ev.now _
  | true =>
    have hb := Qa hp
    refine Ev.yes rfl ?_
    by_cases hl : l.length = 8
    · refine Ev.yes hl ?_
      by_cases ha : l.all (lowB p) = true
      · refine Ev.yes ha ?_
        have hn : numsB p l 8 = true := Vc hp hl (fun x hx => by
          have h1 := List.all_eq_true.1 ha x hx
          rw [Ur hp] at h1
          simpa using h1)
        have hok := Qj hn
        refine Ev.bind (Yb hp (w := 4) (by omega) _ hok (by simp)) ?_
        by_cases h2 : (redP p 4 0 [l.take 4, l.drop 4] []).length = 2
        · refine Ev.yes h2 ?_
          have hro := Qq (p := p) (by omega) 4 0 _ [] hok (Qc p 4)
          have e := Ju h2
          have hx := hro ((redP p 4 0 [l.take 4, l.drop 4] []).getD 0 []) (Qe (by omega))
          have hy := hro ((redP p 4 0 [l.take 4, l.drop 4] []).getD 1 []) (Qe (by omega))
          refine Ev.yes ⟨Nat.lt_of_le_of_lt (Nat.le_of_eq hx.1) (by omega), Nat.lt_of_le_of_lt (Nat.le_of_eq hy.1) (by omega)⟩ ?_
          have e2 : spanP p 4 [l.take 4, l.drop 4] = (redP p 4 0 [l.take 4, l.drop 4] []).getD 0 [] ++ (redP p 4 0 [l.take 4, l.drop 4] []).getD 1 [] := by
            rw [spanP]
            conv => lhs; rw [e]
            simp
          rw [lineB, hn, Bool.true_and, e2]
          exact Jt _ _ (by rw [List.length_append, hx.1, hy.1, hl]) (by rw [List.length_append, hx.1, hy.1]; omega)
        · refine Ev.no h2 ?_
          rw [show lineB p l = false from by
            cases hh : lineB p l with
            | false => rfl
            | true => exact absurd (Vf hh) h2]
          exact Ev.now _
      · refine Ev.no ha ?_
        rw [show lineB p l = false from by
          cases hh : lineB p l with
          | false => rfl
          | true =>
            refine absurd (List.all_eq_true.2 fun x hx => ?_) ha
            rw [Ur hp]
            simpa using (Qb (Qg hh)).2.2 x hx]
        exact Ev.now _
    · refine Ev.no hl ?_
      rw [show lineB p l = false from by
        cases hh : lineB p l with
        | false => rfl
        | true => exact absurd (Qb (Qg hh)).2.1 hl]
      exact Ev.now _
theorem Jv {p : Int} (hp : primeB p = true) {L : List (List Int)} (hL : okR p 4 L) (hl : L.length < 1000000) : Ev (fun k => spec_l7Rank.f k p L) (rankP p 4 L : Int) := by
  unfold spec_l7Rank.f
  exact Ev.bind (Yb hp (w := 4) (by omega) L hL hl) (Ev.now _)
theorem Jw (p : Int) (a l : List Int) : Ev (fun k => spec_SpaceOn.f k p a l) (onB p a l) := by
  unfold spec_SpaceOn.f onB
  refine Ev.bind (Yh p a) ?_
  cases ha : placeB p a with
  | false => exact Ev.no (by simp) (Ev.now _)
  | true =>
    refine Ev.yes rfl (Ev.bind (Us p l) ?_)
    cases hl : lineB p l with
    | false => exact Ev.no (by simp) (Ev.now _)
    | true =>
      have h1 := Qb (Qg hl)
      refine Ev.yes rfl (Ev.yes (by omega) (Ev.bind (Jv h1.1 (Ye (Qg hl) (Qh ha).1) (by simp)) ?_))
      have e : ((rankP p 4 [l.take 4, l.drop 4, a] : Int) == 2) = decide (rankP p 4 [l.take 4, l.drop 4, a] = 2) := by
        rw [Bool.eq_iff_iff]; simp; omega
      rw [e]; exact Ev.now _
theorem Jx (l : List Int) (h : ∀ x ∈ l, (Lit.int .u8 x).wf = true) : ∃ p a m, Ev (fun k => spec_DrawSpaceOn.f k l) (p, a, m) := by
  obtain ⟨b, hb, hok⟩ := Ut l h
  obtain ⟨v, hv, hc⟩ := Uv b hok 0 (by omega) (by omega)
  obtain ⟨m, s1, h1, _, g1, g2⟩ := Jj b hok v (0 + 1) (by omega) (by omega) (by omega)
  have hend : ∀ s2 : Int, 0 ≤ s2 → s2 ≤ 1000 → ∃ a, Ev (fun k => spec_DrawSpaceOn.j0 k v m false b s2) (v, a, m) := by
    intro s2 k1 k2
    obtain ⟨a, t, h2, _, _, _⟩ := Vk b hok v s2 (by omega) (by omega) (by omega)
    exact ⟨a, Ev.step (fun k => by rw [spec_DrawSpaceOn.j0, if_neg (by simp)]) (Ev.bind h2 (Ev.now _))⟩
  have hs := Us v m
  unfold spec_DrawSpaceOn.f
  cases hm : lineB v m with
  | false =>
    rw [hm] at hs
    obtain ⟨a, h2⟩ := hend s1 (by omega) (by omega)
    exact ⟨v, a, m, Ev.bind (Ev.k hb) (Ev.bind hv (Ev.bind h1 (Ev.bind hs (Ev.no (by simp) h2))))⟩
  | true =>
    rw [hm] at hs
    have h8 := (Qb (Qg hm)).2.1
    obtain ⟨u, hu, _, _⟩ := Qi b hok s1 2 (by omega) (by omega)
    cases hz : (u == 0) with
    | true =>
      obtain ⟨a, ha, _⟩ := Yk v (by omega) (m.drop 4) (by simp; omega)
      have h2 : Ev (fun k => spec_DrawSpaceOn.j0 k v m (u == 0) b (s1 + 1)) (v, a, m) := by
        rw [hz]
        exact Ev.step (fun k => by rw [spec_DrawSpaceOn.j0, if_pos rfl]) (Ev.yes (by omega) (Ev.bind ha (Ev.now _)))
      exact ⟨v, a, m, Ev.bind (Ev.k hb) (Ev.bind hv (Ev.bind h1 (Ev.bind hs (Ev.yes rfl (Ev.bind hu h2)))))⟩
    | false =>
      obtain ⟨a, h2⟩ := hend (s1 + 1) (by omega) (by omega)
      rw [← hz] at h2
      exact ⟨v, a, m, Ev.bind (Ev.k hb) (Ev.bind hv (Ev.bind h1 (Ev.bind hs (Ev.yes rfl (Ev.bind hu h2)))))⟩
theorem FnSpaceOn_ev (l : List Int) (h : ∀ x ∈ l, (Lit.int .u8 x).wf = true) : Ev (fun k => laws_FnSpaceOn.f k l) true := by
  unfold laws_FnSpaceOn.f
  refine Ev.ite (fun _ => Ev.now _) (fun hl => ?_)
  obtain ⟨p, a, m, hd⟩ := Jx l h
  refine Ev.bind hd (Ev.bind (Jb p a m) (Ev.bind (Jw p a m) (Ev.no (by simp) ?_)))
  cases hm : onB p a m with
  | false => exact Ev.step (f := fun _ => some true) (fun k => by rw [laws_FnSpaceOn.j0, if_pos (by rfl)]; rfl) (Ev.now _)
  | true =>
    have hparts : placeB p a = true ∧ lineB p m = true := by
      rw [onB, Bool.and_eq_true, Bool.and_eq_true] at hm; exact hm.1
    obtain ⟨ha, hlm⟩ := hparts
    have h8 := (Qb (Qg hlm)).2.1
    have h4 := (Qb (Qh ha).1).2.1
    refine Ev.step (fun k => by rw [laws_FnSpaceOn.j0, if_neg (by simp)]) ?_
    refine Ev.bind (a := []) (Ev.now _) (Ev.yes (by show (4 : Int) ≤ (m.length : Int); omega) (Ev.bind (a := m.drop 4) (Ev.now _) (Ev.yes (by simp; omega) (Ev.bind (a := m.drop 4) (by simpa using Ev.now (m.drop 4)) (Ev.bind (Up a (m.drop 4) (by omega)) ?_)))))
    by_cases e : a = m.drop 4
    · rw [decide_eq_true e]; exact Ev.yes rfl (Ev.now _)
    · rw [decide_eq_false e]
      have hb := (Jo hlm).2
      have e2 : throughP p a (m.drop 4) = (m, true) := by
        rw [throughP, if_pos ⟨ha, hb, e⟩, Js hlm ha hb e (Jr hm) (Sp.mem (by simp))]
      have hi := Je p a (m.drop 4)
      rw [e2] at hi
      refine Ev.no (by simp) (Ev.bind hi (Ev.yes rfl (Ev.bind (Up m m (by omega)) ?_)))
      rw [decide_eq_true rfl]
      exact Ev.now _
end Go.Proofs.Ytmenehnfgenlpaa.PA
namespace Go.Proofs.Ytmenehnfgenlpaa.Pure
open Go.RowKit Go.Proofs.Ytmenehnfgenlpaa.PA Go.Proofs.YtmenehnfgenlpaaW.PrintWords Go.Proofs.YtmenehnfgenlpaaW.PrintLast
theorem FnSpaceOn : laws_FnSpaceOn.Pure := by
  intro l
  intros
  first | exact (FnSpaceOn_ev l).rounds | exact (FnSpaceOn_ev l (by assumption)).rounds
end Go.Proofs.Ytmenehnfgenlpaa.Pure
