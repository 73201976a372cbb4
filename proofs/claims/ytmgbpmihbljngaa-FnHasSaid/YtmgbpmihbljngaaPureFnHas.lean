/- For every code: SurfaceHas tells of the drawn place what the reference tells, and where it is on the surface the surface's form has the value 0 there. No conditions. -/
import Derived.Test.YtmgbpmihbljngaaWMore
import Derived.Test.YtmgbpmihbljngaaPAx22
import Derived.Test.YtmgbpmihbljngaaPAx10
import Derived.Test.YtmgbpmihbljngaaPAx6
import Derived.Test.YtmgbpmihbljngaaPAx26
import Derived.Test.YtmgbpmihbljngaaPAx24
import Derived.Test.YtmgbpmihbljngaaPAx1
import Derived.Test.YtmgbpmihbljngaaPAx15
import Derived.Test.YtmgbpmihbljngaaPAx11
import Derived.Test.YtmgbpmihbljngaaPAx12
import Derived.Test.YtmgbpmihbljngaaPAx13
import Derived.Test.YtmgbpmihbljngaaPAx16
import Derived.Test.YtmgbpmihbljngaaPAx17
import Derived.Test.YtmgbpmihbljngaaPAx25
import Derived.Test.YtmgbpmihbljngaaPAx21
import Derived.Test.YtmgbpmihbljngaaPAx18
import Derived.Test.YtmgbpmihbljngaaPAx27
import Derived.Test.YtmgbpmihbljngaaPAx3
import Derived.Test.YtmgbpmihbljngaaPAx4
import Derived.Test.YtmgbpmihbljngaaPAx5
import Derived.Test.YtmgbpmihbljngaaPAx8
import Derived.Test.YtmgbpmihbljngaaPAx7
import Derived.Test.YtmgbpmihbljngaaPAx9
import Derived.Test.YtmgbpmihbljngaaPAx19
import Derived.Test.YtmgbpmihbljngaaPAx20
namespace Go.Proofs.Ytmgbpmihbljngaa.PA
open Go.RowKit Go.Proofs.YtmgbpmihbljngaaW.PrintWords Go.Proofs.YtmgbpmihbljngaaW.PrintLast Go.Proofs.YtmgbpmihbljngaaW.PrintMore
set_option linter.unusedVariables false
set_option linter.unusedSimpArgs false
theorem wsm {i : Int} (h0 : -1000000000000000000 ≤ i) (h : i ≤ 1000000000000000000) : wrap64 i = i := by unfold wrap64; omega
theorem Ev.none_ {α : Type} {g : Nat → Option α} {r r' : α} (h : Ev g r) (h' : Ev g r') : r = r' := by
  obtain ⟨a, ha⟩ := h
  obtain ⟨b, hb⟩ := h'
  have h1 := ha (max a b) (Nat.le_max_left _ _)
  have h2 := hb (max a b) (Nat.le_max_right _ _)
  exact Option.some.inj (h1.symm.trans h2)
theorem Ev.k {α : Type} {x : Option α} {r : α} (h : x = some r) : Ev (fun _ => x) r := ⟨0, fun _ _ => h⟩
theorem Ev.ite {α : Type} {c : Prop} [Decidable c] {g f : Nat → Option α} {r : α} (h1 : c → Ev g r) (h2 : ¬ c → Ev f r) : Ev (fun k => if c then g k else f k) r := by
  by_cases h : c
  · exact (h1 h).congr (fun k => if_pos h)
  · exact (h2 h).congr (fun k => if_neg h)
theorem Ev.yes {α : Type} {c : Prop} [Decidable c] {g f : Nat → Option α} {r : α} (h : c) (h1 : Ev g r) : Ev (fun k => if c then g k else f k) r := h1.congr (fun k => if_pos h)
theorem Ev.no {α : Type} {c : Prop} [Decidable c] {g f : Nat → Option α} {r : α} (h : ¬ c) (h1 : Ev f r) : Ev (fun k => if c then g k else f k) r := h1.congr (fun k => if_neg h)
theorem Z6 (l : List Int) (j : Nat) (h : j < l.length) : rd l (j : Int) = l[j] := by simp [rd, List.getD_eq_getElem?_getD, h]
theorem qg9 (l : List Int) (j : Nat) (h : j < l.length) : l.drop j = rd l (j : Int) :: l.drop (j + 1) := by rw [Z6 l j h, List.drop_eq_getElem_cons h]
end Go.Proofs.Ytmgbpmihbljngaa.PA
namespace Go.Proofs.Ytmgbpmihbljngaa.PA
open Go.RowKit Go.Proofs.YtmgbpmihbljngaaW.PrintWords Go.Proofs.YtmgbpmihbljngaaW.PrintLast Go.Proofs.YtmgbpmihbljngaaW.PrintMore
set_option linter.unusedVariables false
set_option linter.unusedSimpArgs false
def qac (b : List Int) : Prop := b.length ≤ 2000 ∧ ∀ x ∈ b, 0 ≤ x ∧ x ≤ 255
theorem wf_u8 {x : Int} (h : (Lit.int .u8 x).wf = true) : 0 ≤ x ∧ x ≤ 255 := by
  simp [Lit.wf, IntKind.min, IntKind.max, IntKind.signed, IntKind.bits] at h
  omega
theorem qlb (l : List Int) (h : ∀ x ∈ l, (Lit.int .u8 x).wf = true) : ∃ b, Q4.f l = some (b, 0) ∧ qac b := by
  unfold Q4.f
  by_cases hl : (l.length : Int) > 2000
  · rw [if_pos hl, if_pos (by omega)]
    exact ⟨_, rfl, by simp; omega, fun x hx => wf_u8 (h x (List.mem_of_mem_take hx))⟩
  · rw [if_neg hl]
    exact ⟨_, rfl, by omega, fun x hx => wf_u8 (h x hx)⟩
end Go.Proofs.Ytmgbpmihbljngaa.PA
namespace Go.Proofs.Ytmgbpmihbljngaa.PA
open Go.RowKit Go.Proofs.YtmgbpmihbljngaaW.PrintWords Go.Proofs.YtmgbpmihbljngaaW.PrintLast Go.Proofs.YtmgbpmihbljngaaW.PrintMore
set_option linter.unusedVariables false
set_option linter.unusedSimpArgs false
theorem qd4 (x y : Int) (hx : 0 ≤ x) (hy : 0 ≤ y) (hx2 : x < 2 ^ 40) (hy2 : y < 2 ^ 40) : 0 ≤ Go.bits .xor .i64 x y := by
  obtain ⟨a, rfl⟩ := Int.eq_ofNat_of_zero_le hx
  obtain ⟨b, rfl⟩ := Int.eq_ofNat_of_zero_le hy
  have ha : a < 2 ^ 40 := by omega
  have hb : b < 2 ^ 40 := by omega
  have hc := Nat.xor_lt_two_pow ha hb
  have e : (BitVec.ofInt 64 (a : Int) ^^^ BitVec.ofInt 64 (b : Int)).toNat = a ^^^ b := by
    rw [BitVec.toNat_xor, BitVec.ofInt_natCast, BitVec.ofInt_natCast, BitVec.toNat_ofNat, BitVec.toNat_ofNat, Nat.mod_eq_of_lt (by omega), Nat.mod_eq_of_lt (by omega)]
  show 0 ≤ IntKind.wrap .i64 (((BitVec.ofInt 64 (a : Int) ^^^ BitVec.ofInt 64 (b : Int)).toNat : Nat) : Int)
  rw [e]
  generalize a ^^^ b = c at hc
  have hm : ((c : Int)) % (2 ^ 64 : Int) = c := by omega
  simp only [IntKind.wrap, IntKind.bits, IntKind.signed, hm]
  rw [if_neg (by simp; omega)]
  omega
theorem qg4 {b : List Int} (h : qac b) (i : Int) : 0 ≤ rd b i ∧ rd b i ≤ 255 := by
  unfold rd
  rw [List.getD_eq_getElem?_getD]
  cases hi : b[i.toNat]? with
  | none => simp
  | some x => exact h.2 x (List.mem_of_getElem? hi)
theorem Q6 (b : List Int) (h : qac b) (p n : Int) (hp : 0 ≤ p) (hp2 : p ≤ 1000000) : ∃ v, Ev (fun k => qe.f k b p n) (v, p + 1) ∧ 0 ≤ v ∧ (1 ≤ n → v < n) := by
  have w1 : wrap64 (p + 1) = p + 1 := wsm (by omega) (by omega)
  have w2 : wrap64 (p + 1 - 1) = p := by rw [wsm (by omega) (by omega)]; omega
  unfold qe.f
  by_cases hn : n < 1
  · refine ⟨0, Ev.yes hn ?_, by omega, by omega⟩
    refine Ev.step (f := fun _ => some (0, p + 1)) (fun k => ?_) (Ev.now _)
    rw [qe.j0, if_pos rfl, w1]
  · by_cases hb : b.length = 0
    · refine ⟨0, Ev.no hn ?_, by omega, by omega⟩
      refine Ev.step (f := fun _ => some (0, p + 1)) (fun k => ?_) (Ev.now _)
      rw [qe.j0, if_pos (by simp [hb]), w1]
    · have hbf : ¬ ((b.length : Int) == 0) = true := by simp; intro e; simp [e] at hb
      have hb0 : ¬ (b.length : Int) = 0 := by omega
      by_cases hlt : p < (b.length : Int)
      · have hr := qg4 h p
        refine ⟨Int.tmod (rd b p) n, Ev.no hn ?_, Int.tmod_nonneg _ hr.1, fun _ => Int.tmod_lt_of_pos _ (by omega)⟩
        refine Ev.step (f := fun _ => some (Int.tmod (rd b p) n, p + 1)) (fun k => ?_) (Ev.now _)
        rw [qe.j0, if_neg hbf, w1, w2, if_pos hlt, if_pos hp, if_neg (by omega), wsm (by omega) (by omega)]
      · have hlp : 0 < (b.length : Int) := by omega
        have hi1 := Int.tmod_nonneg (b.length : Int) hp
        have hi2 := Int.tmod_lt_of_pos p hlp
        have w3 : wrap64 (wrap64 (p * 7) + 3) = p * 7 + 3 := by rw [wsm (i := p * 7) (by omega) (by omega), wsm (by omega) (by omega)]
        have hj1 := Int.tmod_nonneg (b.length : Int) (a := p * 7 + 3) (by omega)
        have hj2 := Int.tmod_lt_of_pos (p * 7 + 3) hlp
        have r1 := qg4 h (Int.tmod p (b.length : Int))
        have r2 := qg4 h (Int.tmod (p * 7 + 3) (b.length : Int))
        have hq0 : 0 ≤ Int.tdiv p (b.length : Int) := Int.tdiv_nonneg hp (by omega)
        have hq1 : Int.tdiv p (b.length : Int) ≤ p := by rw [Int.tdiv_eq_ediv_of_nonneg hp]; exact Int.ediv_le_self _ hp
        have e := @qe.j0.eq_2
        generalize hx : wrap64 (wrap64 (wrap64 (wrap64 (wrap64 (rd b (Int.tmod p (b.length : Int))) * 131) + wrap64 (wrap64 (rd b (Int.tmod (p * 7 + 3) (b.length : Int))) * 1117)) + wrap64 (p * 29)) + wrap64 (wrap64 (Int.tdiv p (b.length : Int)) * 53)) = X
        have hX : 0 ≤ X ∧ X < 2 ^ 40 := by
          rw [← hx]
          generalize rd b (Int.tmod p (b.length : Int)) = y1 at r1
          generalize rd b (Int.tmod (p * 7 + 3) (b.length : Int)) = y2 at r2
          generalize Int.tdiv p (b.length : Int) = y3 at hq0 hq1
          rw [wsm (i := y1) (by omega) (by omega), wsm (i := y2) (by omega) (by omega), wsm (i := y3) (by omega) (by omega), wsm (i := y1 * 131) (by omega) (by omega), wsm (i := y2 * 1117) (by omega) (by omega), wsm (i := y3 * 53) (by omega) (by omega), wsm (i := p * 29) (by omega) (by omega), wsm (i := y1 * 131 + y2 * 1117) (by omega) (by omega), wsm (i := y1 * 131 + y2 * 1117 + p * 29) (by omega) (by omega), wsm (by omega) (by omega)]
          omega
        have hd : 0 ≤ Int.tdiv X 64 ∧ Int.tdiv X 64 ≤ X := by rw [Int.tdiv_eq_ediv_of_nonneg hX.1]; omega
        have hxor := qd4 X (wrap64 (Int.tdiv X 64)) hX.1 (by rw [wsm (by omega) (by omega)]; omega) hX.2 (by rw [wsm (by omega) (by omega)]; omega)
        refine ⟨Int.tmod (Go.bits .xor .i64 X (wrap64 (Int.tdiv X 64))) n, Ev.no hn ?_, Int.tmod_nonneg _ hxor, fun _ => Int.tmod_lt_of_pos _ (by omega)⟩
        refine Ev.step (f := fun _ => some (Int.tmod (Go.bits .xor .i64 X (wrap64 (Int.tdiv X 64))) n, p + 1)) (fun k => ?_) (Ev.now _)
        rw [qe.j0, if_neg hbf, w1, w2, if_neg hlt, if_neg hb0, if_pos hi1, if_pos hi2, w3, if_pos hj1, if_pos hj2, if_neg (by omega), hx]
end Go.Proofs.Ytmgbpmihbljngaa.PA
namespace Go.Proofs.Ytmgbpmihbljngaa.PA
open Go.RowKit Go.Proofs.YtmgbpmihbljngaaW.PrintWords Go.Proofs.YtmgbpmihbljngaaW.PrintLast Go.Proofs.YtmgbpmihbljngaaW.PrintMore
set_option linter.unusedVariables false
set_option linter.unusedSimpArgs false
theorem qfp (p x : Int) (hp : 1 ≤ p ∧ p ≤ 40) : ∀ (d : Nat) (i : Int), 0 ≤ i → i + d = p → ∃ r, Ev (fun k => zj.l0 k p x i) r ∧ 0 ≤ r ∧ r < p
  | 0, i, h0, h => by
    refine ⟨0, Ev.step (f := fun _ => some 0) (fun k => ?_) (Ev.now _), by omega, by omega⟩
    rw [zj.l0, if_neg (by omega)]
  | d + 1, i, h0, h => by
    by_cases hc : (Int.tmod (wrap64 (i * x)) p) = 1
    · refine ⟨i, Ev.step (f := fun _ => some i) (fun k => ?_) (Ev.now _), by omega, by omega⟩
      rw [zj.l0, if_pos (by omega), if_neg (by omega), if_pos hc]
    · obtain ⟨r, hr, h1, h2⟩ := qfp p x hp d (i + 1) (by omega) (by omega)
      refine ⟨r, Ev.step (f := fun k => zj.l0 k p x (i + 1)) (fun k => ?_) hr, h1, h2⟩
      rw [zj.l0, if_pos (by omega), if_neg (by omega), if_neg hc, wsm (by omega) (by omega)]
end Go.Proofs.Ytmgbpmihbljngaa.PA
namespace Go.Proofs.Ytmgbpmihbljngaa.PA
open Go.RowKit Go.Proofs.YtmgbpmihbljngaaW.PrintWords Go.Proofs.YtmgbpmihbljngaaW.PrintLast Go.Proofs.YtmgbpmihbljngaaW.PrintMore
set_option linter.unusedVariables false
set_option linter.unusedSimpArgs false
theorem qg8 (p : Int) (hp : 1 ≤ p ∧ p ≤ 40) (l : List Int) (hl : l.length ≤ 1000) : ∀ (d i : Nat) (acc : List Int) (n : Int), i + d = l.length → acc.length = i → ∃ r, Ev (fun k => qu.l0 k p l acc n (i : Int)) r ∧ r.length = l.length
  | 0, i, acc, n, h, ha => by
    refine ⟨acc, Ev.step (f := fun _ => some acc) (fun k => ?_) (Ev.now _), by omega⟩
    rw [qu.l0, if_neg (by omega)]
  | d + 1, i, acc, n, h, ha => by
    by_cases h0 : n = 0
    · obtain ⟨t, ht, _, _⟩ := qfp p (rd l (i : Int)) hp (p - 1).toNat 1 (by omega) (by omega)
      obtain ⟨r, hr, hrl⟩ := qg8 p hp l hl d (i + 1) (acc ++ [Int.tmod (wrap64 ((rd l (i : Int)) * t)) p]) t (by omega) (by simp [ha])
      refine ⟨r, Ev.step (f := fun k => (zj.f k p (rd l (i : Int))).bind fun t => qu.l0 k p l (acc ++ [Int.tmod (wrap64 ((rd l (i : Int)) * t)) p]) t ((i + 1 : Nat) : Int)) (fun k => ?_) (Ev.bind ht hr), hrl⟩
      rw [qu.l0, if_pos (by omega), if_pos h0, if_pos (by omega)]
      congr 1
      funext t
      rw [if_neg (by omega), if_pos (by omega), wsm (i := (i : Int) + 1) (by omega) (by omega)]
      rfl
    · obtain ⟨r, hr, hrl⟩ := qg8 p hp l hl d (i + 1) (acc ++ [Int.tmod (wrap64 ((rd l (i : Int)) * n)) p]) n (by omega) (by simp [ha])
      refine ⟨r, Ev.step (f := fun k => qu.l0 k p l (acc ++ [Int.tmod (wrap64 ((rd l (i : Int)) * n)) p]) n ((i + 1 : Nat) : Int)) (fun k => ?_) hr, hrl⟩
      rw [qu.l0, if_pos (by omega), if_neg h0, if_pos (by omega), if_neg (by omega), if_pos (by omega), wsm (i := (i : Int) + 1) (by omega) (by omega)]
      rfl
theorem qll (p : Int) (hp : 1 ≤ p ∧ p ≤ 40) (l : List Int) (hl : l.length ≤ 1000) : ∃ r, Ev (fun k => qu.f k p l) r ∧ r.length = l.length := by
  unfold qu.f
  exact qg8 p hp l hl l.length 0 [] 0 (by omega) rfl
end Go.Proofs.Ytmgbpmihbljngaa.PA
namespace Go.Proofs.Ytmgbpmihbljngaa.PA
open Go.RowKit Go.Proofs.YtmgbpmihbljngaaW.PrintWords Go.Proofs.YtmgbpmihbljngaaW.PrintLast Go.Proofs.YtmgbpmihbljngaaW.PrintMore
set_option linter.unusedVariables false
set_option linter.unusedSimpArgs false
theorem qin (l : List Int) (hl : l.length ≤ 1000000) : ∀ (d i : Nat), i + d = l.length → Ev (fun k => q5.l0 k l (i : Int)) ((l.drop i).all fun x => x == 0)
  | 0, i, h => by
    refine Ev.step (f := fun _ => some true) (fun k => ?_) ?_
    · rw [q5.l0, if_neg (by omega)]
    · rw [List.drop_eq_nil_of_le (by omega)]; exact Ev.now _
  | d + 1, i, h => by
    have ih := qin l hl d (i + 1) (by omega)
    rw [qg9 l i (by omega), List.all_cons]
    by_cases hz : rd l (i : Int) = 0
    · refine Ev.step (f := fun k => q5.l0 k l ((i + 1 : Nat) : Int)) (fun k => ?_) ?_
      · rw [q5.l0, if_pos (by omega), if_pos (by omega), if_pos hz, wsm (by omega) (by omega)]; rfl
      · simpa [hz] using ih
    · refine Ev.step (f := fun _ => some false) (fun k => ?_) ?_
      · rw [q5.l0, if_pos (by omega), if_pos (by omega), if_neg hz]
      · rw [show (rd l (i : Int) == 0) = false from beq_eq_false_iff_ne.2 hz]
        exact Ev.now false
theorem Jy (l : List Int) (hl : l.length ≤ 1000000) : Ev (fun k => q5.f k l) (l.all fun x => x == 0) := by
  unfold q5.f
  simpa using qin l hl l.length 0 (by omega)
end Go.Proofs.Ytmgbpmihbljngaa.PA
namespace Go.Proofs.Ytmgbpmihbljngaa.PA
open Go.RowKit Go.Proofs.YtmgbpmihbljngaaW.PrintWords Go.Proofs.YtmgbpmihbljngaaW.PrintLast Go.Proofs.YtmgbpmihbljngaaW.PrintMore
set_option linter.unusedVariables false
set_option linter.unusedSimpArgs false
theorem qd1 (b : List Int) (hb : qac b) (p s : Int) (hp : 1 ≤ p ∧ p ≤ 31) (h0 : 0 ≤ s) (h1 : s ≤ 900000) : ∃ a s', Ev (fun k => jw.f k b s p) (a, s') ∧ a.length ≤ 5 ∧ s ≤ s' ∧ s' ≤ s + 50 := by
  obtain ⟨v1, e1, _, _⟩ := Q6 b hb s 2 h0 (by omega)
  obtain ⟨v2, e2, _, _⟩ := Q6 b hb (s + 1) p (by omega) (by omega)
  obtain ⟨v3, e3, _, _⟩ := Q6 b hb (s + 1 + 1) p (by omega) (by omega)
  obtain ⟨v4, e4, _, _⟩ := Q6 b hb (s + 1 + 1 + 1) p (by omega) (by omega)
  obtain ⟨r, er, hr⟩ := qll p (by omega) [v1, v2, v3, v4] (by simp)
  have ez := Jy r (by rw [hr]; simp)
  simp only [List.length_cons, List.length_nil] at hr
  unfold jw.f
  cases hz : (r.all fun x => x == 0)
  · obtain ⟨v5, e5, _, _⟩ := Q6 b hb (s + 1 + 1 + 1 + 1) 24 (by omega) (by omega)
    rw [hz] at ez
    by_cases h5 : v5 = 0
    · refine ⟨r ++ [0], s + 1 + 1 + 1 + 1 + 1, Ev.bind e1 (Ev.bind e2 (Ev.bind e3 (Ev.bind e4 (Ev.bind er (Ev.bind ez (Ev.no (by simp) (Ev.bind e5 (Ev.yes h5 (Ev.yes (by omega) (Ev.now _)))))))))), by simp [hr], by omega, by omega⟩
    · refine ⟨r, s + 1 + 1 + 1 + 1 + 1, Ev.bind e1 (Ev.bind e2 (Ev.bind e3 (Ev.bind e4 (Ev.bind er (Ev.bind ez (Ev.no (by simp) (Ev.bind e5 (Ev.no h5 (Ev.now _))))))))), by simp [hr], by omega, by omega⟩
  · obtain ⟨v5, e5, _, _⟩ := Q6 b hb (s + 1 + 1 + 1 + 1) p (by omega) (by omega)
    rw [hz] at ez
    exact ⟨[0, 0, 1, v5], s + 1 + 1 + 1 + 1 + 1, Ev.bind e1 (Ev.bind e2 (Ev.bind e3 (Ev.bind e4 (Ev.bind er (Ev.bind ez (Ev.yes rfl (Ev.bind e5 (Ev.now _)))))))), by simp, by omega, by omega⟩
end Go.Proofs.Ytmgbpmihbljngaa.PA
namespace Go.Proofs.Ytmgbpmihbljngaa.PA
open Go.RowKit Go.Proofs.YtmgbpmihbljngaaW.PrintWords Go.Proofs.YtmgbpmihbljngaaW.PrintLast Go.Proofs.YtmgbpmihbljngaaW.PrintMore
set_option linter.unusedVariables false
set_option linter.unusedSimpArgs false
theorem qik (b : List Int) (h : qac b) (p : Int) (hp : 0 ≤ p) (hp2 : p ≤ 1000000) : ∃ v, Ev (fun k => j5.f k b p) (v, p + 1) ∧ (v = 7 ∨ v = 11 ∨ v = 13 ∨ v = 17 ∨ v = 19 ∨ v = 23 ∨ v = 29 ∨ v = 31 ∨ v = 9 ∨ v = 5) := by
  obtain ⟨v, hv, h0, h1⟩ := Q6 b h p 13 hp hp2
  have h2 := h1 (by omega)
  refine ⟨rd ([7, 11, 13, 17, 19, 23, 29, 31, 13, 19, 31, 9, 5] : List Int) v, ?_, ?_⟩
  · unfold j5.f
    refine Ev.bind (Ev.now _) (Ev.bind hv ?_)
    exact Ev.yes h0 (Ev.yes (by simpa using h2) (Ev.now _))
  · have : v = 0 ∨ v = 1 ∨ v = 2 ∨ v = 3 ∨ v = 4 ∨ v = 5 ∨ v = 6 ∨ v = 7 ∨ v = 8 ∨ v = 9 ∨ v = 10 ∨ v = 11 ∨ v = 12 := by omega
    rcases this with rfl | rfl | rfl | rfl | rfl | rfl | rfl | rfl | rfl | rfl | rfl | rfl | rfl <;> simp [rd]
end Go.Proofs.Ytmgbpmihbljngaa.PA
namespace Go.Proofs.Ytmgbpmihbljngaa.PA
open Go.RowKit Go.Proofs.YtmgbpmihbljngaaW.PrintWords Go.Proofs.YtmgbpmihbljngaaW.PrintLast Go.Proofs.YtmgbpmihbljngaaW.PrintMore
set_option linter.unusedVariables false
set_option linter.unusedSimpArgs false
theorem qor (a b c : Int) : z5.f a b c = some (decide (b ≤ a) && decide (a ≤ c)) := by
  unfold z5.f
  by_cases h : a ≥ b
  · rw [if_pos h, decide_eq_true (show b ≤ a from h), Bool.true_and]
  · rw [if_neg h, decide_eq_false (show ¬ b ≤ a from h), Bool.false_and]
end Go.Proofs.Ytmgbpmihbljngaa.PA
namespace Go.Proofs.Ytmgbpmihbljngaa.PA
open Go.RowKit Go.Proofs.YtmgbpmihbljngaaW.PrintWords Go.Proofs.YtmgbpmihbljngaaW.PrintLast Go.Proofs.YtmgbpmihbljngaaW.PrintMore
set_option linter.unusedVariables false
set_option linter.unusedSimpArgs false
theorem qa7 (p : Int) : ju.f p = some (zk p) := by
  unfold ju.f zk
  repeat' split
  all_goals first | (subst_vars; rfl) | (congr 1; symm; rw [decide_eq_true_iff]; omega) | (congr 1; symm; rw [decide_eq_false_iff_not]; omega)
theorem Jx {p : Int} (h : zk p = true) : p = 7 ∨ p = 11 ∨ p = 13 ∨ p = 17 ∨ p = 19 ∨ p = 23 ∨ p = 29 ∨ p = 31 := of_decide_eq_true h
def Zx (p : Int) (l : List Int) (n : Nat) : Bool := zk p && decide (l.length = n) && l.all fun x => decide (0 ≤ x) && decide (x < p)
theorem qai (p : Int) (l : List Int) (n : Nat) : z1.f p l (n : Int) = some (Zx p l n) := by
  unfold z1.f Zx
  congr 3
  rw [Bool.eq_iff_iff, decide_eq_true_iff, decide_eq_true_iff]
  omega
theorem Qo {p : Int} {l : List Int} {n : Nat} (h : Zx p l n = true) : zk p = true ∧ l.length = n ∧ ∀ x ∈ l, 0 ≤ x ∧ x < p := by
  unfold Zx at h
  rw [Bool.and_eq_true, Bool.and_eq_true] at h
  refine ⟨h.1.1, of_decide_eq_true h.1.2, fun x hx => ?_⟩
  have := List.all_eq_true.1 h.2 x hx
  rw [Bool.and_eq_true] at this
  exact ⟨of_decide_eq_true this.1, of_decide_eq_true this.2⟩
theorem qfc {p : Int} {l : List Int} {n : Nat} (h1 : zk p = true) (h2 : l.length = n) (h3 : ∀ x ∈ l, 0 ≤ x ∧ x < p) : Zx p l n = true := by
  unfold Zx
  rw [h1, decide_eq_true h2, Bool.true_and, Bool.true_and, List.all_eq_true]
  intro x hx
  rw [decide_eq_true (h3 x hx).1, decide_eq_true (h3 x hx).2]; rfl
theorem zw {p : Int} (h : zk p = true) : 7 ≤ p ∧ p ≤ 31 := by have := Jx h; omega
end Go.Proofs.Ytmgbpmihbljngaa.PA
namespace Go.Proofs.Ytmgbpmihbljngaa.PA
open Go.RowKit Go.Proofs.YtmgbpmihbljngaaW.PrintWords Go.Proofs.YtmgbpmihbljngaaW.PrintLast Go.Proofs.YtmgbpmihbljngaaW.PrintMore
set_option linter.unusedVariables false
set_option linter.unusedSimpArgs false
def invP (p x : Int) : Int := (zj.f 40 p x).getD 0
theorem qjj : ∀ p ∈ ([7, 11, 13, 17, 19, 23, 29, 31] : List Int), ∀ x ∈ List.range 31, (x : Int) < p → zj.f 40 p (x : Int) = some (invP p (x : Int)) ∧ 0 ≤ invP p (x : Int) ∧ invP p (x : Int) < p ∧ ((x : Int) ≠ 0 → ((x : Int) * invP p (x : Int)) % p = 1) ∧ ((x : Int) = 0 → invP p (x : Int) = 0) := by decide +kernel
theorem Ze {p : Int} (hp : zk p = true) {x : Int} (h0 : 0 ≤ x) (h1 : x < p) : zj.f 40 p x = some (invP p x) ∧ 0 ≤ invP p x ∧ invP p x < p ∧ (x ≠ 0 → (x * invP p x) % p = 1) ∧ (x = 0 → invP p x = 0) := by
  obtain ⟨y, rfl⟩ := Int.eq_ofNat_of_zero_le h0
  have hb := zw hp
  refine qjj p ?_ y (List.mem_range.2 (by omega)) h1
  have := Jx hp
  simpa using this
theorem qlc {p : Int} (hp : zk p = true) {x : Int} (h0 : 0 ≤ x) (h1 : x < p) : Ev (fun k => zj.f k p x) (invP p x) := Ev.of (zj.mono p x) (Ze hp h0 h1).1
theorem qns {p : Int} (hp : zk p = true) : invP p 1 = 1 := by
  have hb := zw hp
  obtain ⟨_, h2, h3, h4, _⟩ := Ze hp (x := 1) (by omega) (by omega)
  have := h4 (by omega)
  rw [Int.one_mul, Int.emod_eq_of_lt h2 h3] at this
  exact this
theorem qoz {p : Int} (hp : zk p = true) {x : Int} (h0 : 0 ≤ x) (h1 : x < p) (hx : x ≠ 0) : invP p x ≠ 0 := by
  intro e
  have := (Ze hp h0 h1).2.2.2.1 hx
  rw [e] at this
  simp at this
end Go.Proofs.Ytmgbpmihbljngaa.PA
namespace Go.Proofs.Ytmgbpmihbljngaa.PA
open Go.RowKit Go.Proofs.YtmgbpmihbljngaaW.PrintWords Go.Proofs.YtmgbpmihbljngaaW.PrintLast Go.Proofs.YtmgbpmihbljngaaW.PrintMore
set_option linter.unusedVariables false
set_option linter.unusedSimpArgs false
def jm (p t : Int) (h r : List Int) : List Int := List.zipWith (fun x y => (x - t * y) % p) r h
def Qu (p b : Int) (r : List Int) : List Int := r.map fun x => x * b % p
def redP (p : Int) : Nat → Nat → List (List Int) → List (List Int) → List (List Int)
  | 0, _, _, O => O
  | d + 1, c, L, O =>
    match L.findIdx? (fun row => rd row (c : Int) != 0) with
    | none => redP p d (c + 1) L O
    | some i => redP p d (c + 1) ((L.eraseIdx i).map fun r => jm p (rd r (c : Int)) (Qu p (invP p (rd (L.getD i []) (c : Int))) (L.getD i [])) r) ((O.map fun r => jm p (rd r (c : Int)) (Qu p (invP p (rd (L.getD i []) (c : Int))) (L.getD i [])) r) ++ [Qu p (invP p (rd (L.getD i []) (c : Int))) (L.getD i [])])
def J6 (p : Int) : Nat → Nat → List (List Int) → List Int → List Int
  | 0, _, _, H => H
  | d + 1, c, L, H =>
    match L.findIdx? (fun row => rd row (c : Int) != 0) with
    | none => J6 p d (c + 1) L H
    | some i => J6 p d (c + 1) ((L.eraseIdx i).map fun r => jm p (rd r (c : Int)) (Qu p (invP p (rd (L.getD i []) (c : Int))) (L.getD i [])) r) (H ++ [(c : Int)])
def okR (p : Int) (w : Nat) (L : List (List Int)) : Prop := ∀ r ∈ L, r.length = w ∧ ∀ x ∈ r, 0 ≤ x ∧ x < p
theorem qd9 (p : Int) (w : Nat) : okR p w [] := fun _ h => absurd h (by simp)
theorem qie {p : Int} {w : Nat} {r : List Int} {L : List (List Int)} (h1 : r.length = w ∧ ∀ x ∈ r, 0 ≤ x ∧ x < p) (h2 : okR p w L) : okR p w (r :: L) := fun x hx => by
  rcases List.mem_cons.1 hx with rfl | hx
  · exact h1
  · exact h2 x hx
theorem qg0 {p : Int} {w : Nat} {L M : List (List Int)} (h1 : okR p w L) (h2 : okR p w M) : okR p w (L ++ M) := fun x hx => by
  rcases List.mem_append.1 hx with hx | hx
  · exact h1 x hx
  · exact h2 x hx
theorem qec {p t : Int} {w : Nat} {h r : List Int} (hp : 0 < p) (hh : h.length = w) (hr : r.length = w) : (jm p t h r).length = w ∧ ∀ x ∈ jm p t h r, 0 ≤ x ∧ x < p := by
  refine ⟨by simp [jm, hh, hr], fun x hx => ?_⟩
  rw [jm, List.mem_iff_getElem] at hx
  obtain ⟨i, hi, rfl⟩ := hx
  rw [List.getElem_zipWith]
  exact ⟨Int.emod_nonneg _ (by omega), Int.emod_lt_of_pos _ hp⟩
theorem qcq {p b : Int} {w : Nat} {r : List Int} (hp : 0 < p) (hr : r.length = w) : (Qu p b r).length = w ∧ ∀ x ∈ Qu p b r, 0 ≤ x ∧ x < p := by
  refine ⟨by simp [Qu, hr], fun x hx => ?_⟩
  obtain ⟨y, _, rfl⟩ := List.mem_map.1 hx
  exact ⟨Int.emod_nonneg _ (by omega), Int.emod_lt_of_pos _ hp⟩
theorem Q3 {L : List (List Int)} {i : Nat} (h : i < L.length) : L.getD i [] ∈ L := by
  rw [List.getD_eq_getElem?_getD, List.getElem?_eq_getElem h]; exact List.getElem_mem h
theorem qbh {p : Int} {w : Nat} {L : List (List Int)} {h : List Int} (t : List Int → Int) (hp : 0 < p) (hh : h.length = w) (hL : okR p w L) : okR p w (L.map fun r => jm p (t r) h r) := fun x hx => by
  obtain ⟨r, hr, rfl⟩ := List.mem_map.1 hx
  exact qec hp hh (hL r hr).1
theorem qbt {p : Int} {w : Nat} {L : List (List Int)} (i : Nat) (hL : okR p w L) : okR p w (L.eraseIdx i) := fun r hr => hL r (List.mem_of_mem_eraseIdx hr)
theorem qc6 {L : List (List Int)} {P : List Int → Bool} {i : Nat} (h : L.findIdx? P = some i) : i < L.length ∧ P (L.getD i []) = true := by
  rw [List.findIdx?_eq_some_iff_getElem] at h
  obtain ⟨hi, hp, _⟩ := h
  exact ⟨hi, by rw [List.getD_eq_getElem?_getD, List.getElem?_eq_getElem hi]; exact hp⟩
theorem qdy {p : Int} {w : Nat} {r : List Int} (h : r.length = w ∧ ∀ x ∈ r, 0 ≤ x ∧ x < p) (j : Nat) (hj : j < w) : 0 ≤ rd r (j : Int) ∧ rd r (j : Int) < p := by
  rw [Z6 r j (by omega)]; exact h.2 _ (List.getElem_mem _)
theorem qgs {p t : Int} {h r : List Int} (j : Nat) (h1 : j < r.length) (h2 : j < h.length) : rd (jm p t h r) (j : Int) = (rd r (j : Int) - t * rd h (j : Int)) % p := by
  rw [Z6 _ j (by simp [jm]; omega), Z6 _ j h1, Z6 _ j h2]; simp [jm]
theorem qil {p b : Int} {r : List Int} (j : Nat) (h1 : j < r.length) : rd (Qu p b r) (j : Int) = rd r (j : Int) * b % p := by
  rw [Z6 _ j (by simp [Qu]; omega), Z6 _ j h1]; simp [Qu]
def modW (p x : Int) : Int := Int.tmod (wrap64 (Int.tmod x p + p)) p
theorem qd7 {p : Int} (hp : 0 < p) (x : Int) : -p < Int.tmod x p ∧ Int.tmod x p < p := by
  refine ⟨?_, Int.tmod_lt_of_pos x hp⟩
  have h1 := Int.tmod_lt_of_pos (-x) hp
  rw [Int.neg_tmod] at h1
  omega
theorem ql7 {p : Int} (x : Int) : (Int.tmod x p + p) % p = x % p := by
  have h := Int.mul_tdiv_add_tmod x p
  have e : x = Int.tmod x p + p * x.tdiv p := by omega
  rw [Int.add_emod_right]
  conv => rhs; rw [e, Int.add_mul_emod_self_left]
theorem Zh {x p : Int} (hp : 7 ≤ p ∧ p ≤ 31) (h0 : -1000000000 ≤ x) (h1 : x ≤ 1000000000) : modW p (wrap64 x) = x % p := by
  rw [wsm (by omega) (by omega), modW]
  have hb := qd7 (p := p) (by omega) x
  rw [wsm (by omega) (by omega), Int.tmod_eq_emod_of_nonneg (by omega), ql7]
end Go.Proofs.Ytmgbpmihbljngaa.PA
namespace Go.Proofs.Ytmgbpmihbljngaa.PA
open Go.RowKit Go.Proofs.YtmgbpmihbljngaaW.PrintWords Go.Proofs.YtmgbpmihbljngaaW.PrintLast Go.Proofs.YtmgbpmihbljngaaW.PrintMore
set_option linter.unusedVariables false
set_option linter.unusedSimpArgs false
def qd0 (l : List Int) : Int := (l.find? (fun x => x != 0)).getD 0
def rowP (p : Int) (l : List Int) : List Int := l.map fun x => x * invP p (qd0 l) % p
theorem qcn (x : Int) (l : List Int) : qd0 (x :: l) = if x = 0 then qd0 l else x := by
  unfold qd0
  by_cases h : x = 0
  · simp [h]
  · simp [h]
theorem qfd {p x y : Int} (hp : p ≤ 31) (h0 : 0 ≤ x) (h1 : x < p) (h2 : 0 ≤ y) (h3 : y < p) : 0 ≤ x * y ∧ x * y ≤ 900 := by
  have h := Int.mul_le_mul (show x ≤ 30 by omega) (show y ≤ 30 by omega) h2 (by omega)
  exact ⟨Int.mul_nonneg h0 h2, by omega⟩
theorem qg3 {p : Int} (hp : zk p = true) (l : List Int) (hr : ∀ x ∈ l, 0 ≤ x ∧ x < p) (hl : l.length ≤ 1000) : ∀ (d i : Nat) (acc : List Int) (n : Int), i + d = l.length → acc.length = i → (n = 0 ∨ 0 ≤ n ∧ n < p) →
    Ev (fun k => qu.l0 k p l acc n (i : Int)) (acc ++ (l.drop i).map fun x => x * (if n = 0 then invP p (qd0 (l.drop i)) else n) % p)
  | 0, i, acc, n, h, ha, hn => by
    refine Ev.step (f := fun _ => some acc) (fun k => ?_) ?_
    · rw [qu.l0, if_neg (by omega)]
    · rw [List.drop_eq_nil_of_le (by omega)]; simpa using Ev.now acc
  | d + 1, i, acc, n, h, ha, hn => by
    have hb := zw hp
    have hi : i < l.length := by omega
    have hx := hr _ (List.getElem_mem hi)
    rw [← Z6 l i hi] at hx
    rw [qg9 l i hi]
    by_cases h0 : n = 0
    · have hv := Ze hp hx.1 hx.2
      have hm := qfd hb.2 hx.1 hx.2 hv.2.1 hv.2.2.1
      refine Ev.step (f := fun k => (zj.f k p (rd l (i : Int))).bind fun t => qu.l0 k p l (acc ++ [Int.tmod (wrap64 ((rd l (i : Int)) * t)) p]) t ((i + 1 : Nat) : Int)) (fun k => ?_) (Ev.bind (qlc hp hx.1 hx.2) ?_)
      · rw [qu.l0, if_pos (by omega), if_pos h0, if_pos (by omega)]
        congr 1
        funext t
        rw [if_neg (by omega), if_pos (by omega), wsm (i := (i : Int) + 1) (by omega) (by omega)]
        rfl
      · have ih := qg3 hp l hr hl d (i + 1) (acc ++ [Int.tmod (wrap64 ((rd l (i : Int)) * invP p (rd l (i : Int)))) p]) (invP p (rd l (i : Int))) (by omega) (by simp [ha]) (.inr ⟨hv.2.1, hv.2.2.1⟩)
        rw [wsm (by omega) (by omega), Int.tmod_eq_emod_of_nonneg hm.1] at ih ⊢
        rw [List.append_assoc] at ih
        rw [qcn, if_pos h0]
        by_cases hz : rd l (i : Int) = 0
        · rw [if_pos hz]
          rw [if_pos (hv.2.2.2.2 hz)] at ih
          simp only [hz, Int.zero_mul, List.map_cons] at ih ⊢
          exact ih
        · rw [if_neg hz]
          rw [if_neg (qoz hp hx.1 hx.2 hz)] at ih
          simpa using ih
    · have hn' : 0 ≤ n ∧ n < p := by rcases hn with h | h; exact absurd h h0; exact h
      have hm := qfd hb.2 hx.1 hx.2 hn'.1 hn'.2
      refine Ev.step (f := fun k => qu.l0 k p l (acc ++ [Int.tmod (wrap64 ((rd l (i : Int)) * n)) p]) n ((i + 1 : Nat) : Int)) (fun k => ?_) ?_
      · rw [qu.l0, if_pos (by omega), if_neg h0, if_pos (by omega), if_neg (by omega), if_pos (by omega), wsm (i := (i : Int) + 1) (by omega) (by omega)]
        rfl
      · have ih := qg3 hp l hr hl d (i + 1) (acc ++ [Int.tmod (wrap64 ((rd l (i : Int)) * n)) p]) n (by omega) (by simp [ha]) hn
        rw [wsm (by omega) (by omega), Int.tmod_eq_emod_of_nonneg hm.1] at ih ⊢
        rw [if_neg h0] at ih ⊢
        simpa using ih
theorem qbe {p : Int} (hp : zk p = true) (l : List Int) (hr : ∀ x ∈ l, 0 ≤ x ∧ x < p) (hl : l.length ≤ 1000) : Ev (fun k => qu.f k p l) (rowP p l) := by
  have := qg3 hp l hr hl l.length 0 [] 0 (by omega) rfl (.inl rfl)
  unfold qu.f
  simpa [rowP] using this
end Go.Proofs.Ytmgbpmihbljngaa.PA
namespace Go.Proofs.Ytmgbpmihbljngaa.PA
open Go.RowKit Go.Proofs.YtmgbpmihbljngaaW.PrintWords Go.Proofs.YtmgbpmihbljngaaW.PrintLast Go.Proofs.YtmgbpmihbljngaaW.PrintMore
set_option linter.unusedVariables false
set_option linter.unusedSimpArgs false
theorem qaq (p x : Int) (hp : p ≠ 0) : jl.f p x = some (modW p x) := by rw [jl.f, if_neg hp]; rfl
theorem qh0 {p t : Int} {w : Nat} (hp : 7 ≤ p ∧ p ≤ 31) (ht : 0 ≤ t ∧ t < p) {h r : List Int} (hh : h.length = w ∧ ∀ x ∈ h, 0 ≤ x ∧ x < p) (hr : r.length = w ∧ ∀ x ∈ r, 0 ≤ x ∧ x < p) (hw : w ≤ 1000) : ∀ (d i : Nat), i + d = w → Ev (fun k => zb.l0 k p r t h ((jm p t h r).take i) (i : Int)) (jm p t h r)
  | 0, i, he => by
    have hl := (qec (p := p) (t := t) (by omega) hh.1 hr.1).1
    refine Ev.step (f := fun _ => some (jm p t h r)) (fun k => ?_) (Ev.now _)
    rw [zb.l0, if_neg (by omega), List.take_of_length_le (by omega)]
  | d + 1, i, he => by
    have hl := (qec (p := p) (t := t) (by omega) hh.1 hr.1).1
    have hx := qdy hr i (by omega)
    have hy := qdy hh i (by omega)
    have hm := qfd hp.2 ht.1 ht.2 hy.1 hy.2
    refine Ev.step (f := fun k => zb.l0 k p r t h ((jm p t h r).take (i + 1)) ((i + 1 : Nat) : Int)) (fun k => ?_) (qh0 hp ht hh hr hw d (i + 1) (by omega))
    rw [zb.l0, if_pos (by omega), if_pos (by omega), if_pos (by omega), qaq _ _ (by omega), Option.bind_some, if_pos (by simp; omega), wsm (i := (i : Int) + 1) (by omega) (by omega), wsm (i := t * rd h (i : Int)) (by omega) (by omega), Zh hp (by omega) (by omega)]
    have e : (jm p t h r).take (i + 1) = (jm p t h r).take i ++ [(rd r (i : Int) - t * rd h (i : Int)) % p] := by
      rw [List.take_add_one, List.getElem?_eq_getElem (by omega), ← Z6 (jm p t h r) i (by omega), qgs i (by omega) (by omega)]
      rfl
    rw [e]
    rfl
theorem qf6 {p t : Int} {w : Nat} (hp : 7 ≤ p ∧ p ≤ 31) (ht : 0 ≤ t ∧ t < p) {h r : List Int} (hh : h.length = w ∧ ∀ x ∈ h, 0 ≤ x ∧ x < p) (hr : r.length = w ∧ ∀ x ∈ r, 0 ≤ x ∧ x < p) (hw : w ≤ 1000) : Ev (fun k => zb.f k p r t h) (jm p t h r) := by
  unfold zb.f
  simpa using qh0 hp ht hh hr hw w 0 (by omega)
theorem qag (L : List (List Int)) (i : Nat) : zz L (i : Int) = L.getD i [] := by simp [zz]
theorem qi0 : ∀ (l : List Int) (c : Nat), c < l.length → (∀ j : Nat, j < c → rd l (j : Int) = 0) → rd l (c : Int) ≠ 0 → qd0 l = rd l (c : Int)
  | [], c, h, _, _ => absurd h (by simp)
  | x :: l, 0, _, _, hn => by
    have e : rd (x :: l) ((0 : Nat) : Int) = x := by simp [rd]
    rw [e] at hn ⊢
    rw [qcn, if_neg hn]
  | x :: l, c + 1, h, hz, hn => by
    have e : ∀ j : Nat, rd (x :: l) ((j + 1 : Nat) : Int) = rd l (j : Int) := fun j => by simp [rd]
    have h0 : x = 0 := by have := hz 0 (by omega); simpa [rd] using this
    rw [qcn, if_pos h0, e]
    exact qi0 l c (by simpa using h) (fun j hj => by rw [← e]; exact hz (j + 1) (by omega)) (by rw [← e]; exact hn)
theorem qou {p : Int} {l : List Int} {c : Nat} (hc : c < l.length) (hz : ∀ j : Nat, j < c → rd l (j : Int) = 0) (hn : rd l (c : Int) ≠ 0) : rowP p l = Qu p (invP p (rd l (c : Int))) l := by
  rw [rowP, qi0 l c hc hz hn, Qu]
def qdf (c : Nat) (L : List (List Int)) : Prop := ∀ r ∈ L, ∀ j : Nat, j < c → rd r (j : Int) = 0
theorem qdp {p : Int} (hp : zk p = true) {w c : Nat} (hc : c < w) {L : List (List Int)} (hL : okR p w L) (hz : qdf c L) {i : Nat} (hf : L.findIdx? (fun row => rd row (c : Int) != 0) = some i) :
    qdf (c + 1) ((L.eraseIdx i).map fun r => jm p (rd r (c : Int)) (Qu p (invP p (rd (L.getD i []) (c : Int))) (L.getD i [])) r) := by
  intro r hr j hj
  obtain ⟨q, hq, rfl⟩ := List.mem_map.1 hr
  have hq' := List.mem_of_mem_eraseIdx hq
  obtain ⟨hi, hne⟩ := qc6 hf
  have hx := hL _ (Q3 hi)
  have hxr := qdy hx c hc
  have hne' : rd (L.getD i []) (c : Int) ≠ 0 := by simpa using hne
  have hql := (hL q hq').1
  rw [qgs j (by omega) (by rw [(qcq (by have := zw hp; omega) hx.1).1]; omega), qil j (by omega)]
  by_cases e : j = c
  · subst e
    rw [(Ze hp hxr.1 hxr.2).2.2.2.1 hne', Int.mul_one, Int.sub_self, Int.zero_emod]
  · rw [hz q hq' j (by omega), hz _ (Q3 hi) j (by omega)]
    simp
theorem qdv {c : Nat} {L : List (List Int)} (hz : qdf c L) (hf : L.findIdx? (fun row => rd row (c : Int) != 0) = none) : qdf (c + 1) L := by
  intro r hr j hj
  by_cases e : j = c
  · subst e
    have := List.findIdx?_eq_none_iff.1 hf r hr
    simpa using this
  · exact hz r hr j (by omega)
theorem qge {p : Int} {w : Nat} {rows out : List (List Int)} {heads : List Int} {c : Nat} {R : List (List Int) × List Int} (hc : c < w) (hw : w ≤ 1000) (hlen : rows.length < 1000000) (hr : ∀ r ∈ rows, r.length = w)
    (hnone : rows.findIdx? (fun row => rd row (c : Int) != 0) = none → Ev (fun k => qc.l0 k p rows (w : Int) out heads ((c + 1 : Nat) : Int)) R)
    (hsome : ∀ i, rows.findIdx? (fun row => rd row (c : Int) != 0) = some i → Ev (fun k => (qu.f k p (rows.getD i [])).bind fun t => qc.l2 k p rows (w : Int) out heads (c : Int) (i : Int) t [] 0) R) :
    ∀ (d i : Nat), i + d = rows.length → (rows.take i).findIdx? (fun row => rd row (c : Int) != 0) = none → Ev (fun k => qc.l1 k p rows (w : Int) out heads (c : Int) (-1) (i : Int)) R
  | 0, i, he, hf => by
    have hf' : rows.findIdx? (fun row => rd row (c : Int) != 0) = none := by rwa [List.take_of_length_le (by omega)] at hf
    refine Ev.step (f := fun k => qc.j2 k p rows (w : Int) out heads (c : Int) (-1) (i : Int) false) (fun k => ?_) ?_
    · rw [qc.l1, if_neg (by omega)]
    · refine Ev.step (f := fun k => qc.l0 k p rows (w : Int) out heads ((c + 1 : Nat) : Int)) (fun k => ?_) (hnone hf')
      rw [qc.j2, if_neg (by simp), if_pos (by omega), wsm (by omega) (by omega)]
      rfl
  | d + 1, i, he, hf => by
    have hi : i < rows.length := by omega
    have hrl : (rows.getD i []).length = w := hr _ (Q3 hi)
    refine Ev.step (f := fun k => qc.j2 k p rows (w : Int) out heads (c : Int) (-1) (i : Int) true) (fun k => ?_) ?_
    · rw [qc.l1, if_pos (by omega)]; rfl
    · by_cases hz : rd (rows.getD i []) (c : Int) = 0
      · refine Ev.step (f := fun k => qc.l1 k p rows (w : Int) out heads (c : Int) (-1) ((i + 1 : Nat) : Int)) (fun k => ?_) (qge hc hw hlen hr hnone hsome d (i + 1) (by omega) ?_)
        · rw [qc.j2, if_pos rfl, if_pos (by omega), if_pos (by omega), if_pos (by omega), qag, if_pos (by omega), if_pos hz, wsm (by omega) (by omega)]
          rfl
        · rw [List.take_add_one, List.findIdx?_append, hf, List.getElem?_eq_getElem hi]
          rw [List.getD_eq_getElem?_getD, List.getElem?_eq_getElem hi] at hz
          simp only [Option.getD_some] at hz
          simp [List.findIdx?_cons, hz]
      · have hfi : rows.findIdx? (fun row => rd row (c : Int) != 0) = some i := by
          rw [List.getD_eq_getElem?_getD, List.getElem?_eq_getElem hi] at hz
          simp only [Option.getD_some] at hz
          have hsplit : rows = rows.take i ++ rows[i] :: rows.drop (i + 1) := by rw [List.getElem_cons_drop, List.take_append_drop]
          rw [hsplit, List.findIdx?_append, hf]
          have hz' : (rd rows[i] (c : Int) != 0) = true := bne_iff_ne.mpr hz
          rw [List.findIdx?_cons, hz']
          simp only [if_true, Option.map_some, Option.none_or, List.length_take, Nat.zero_add]
          rw [Nat.min_eq_left (by omega)]
        have hs := hsome i hfi
        have hfin : ∀ q : Nat, Ev (fun k => qc.j2 k p rows (w : Int) out heads (c : Int) (i : Int) (q : Int) false) R := fun q => by
          refine Ev.step (f := fun k => (qu.f k p (rows.getD i [])).bind fun t => qc.l2 k p rows (w : Int) out heads (c : Int) (i : Int) t [] 0) (fun k => ?_) hs
          rw [qc.j2, if_neg (by simp), if_neg (by omega), if_pos (by omega), if_pos (by omega), qag]
        refine Ev.step (f := fun k => qc.l1 k p rows (w : Int) out heads (c : Int) (i : Int) ((i + 1 : Nat) : Int)) (fun k => ?_) ?_
        · rw [qc.j2, if_pos rfl, if_pos (by omega), if_pos (by omega), if_pos (by omega), qag, if_pos (by omega), if_neg hz, wsm (by omega) (by omega)]
          rfl
        · refine Ev.step (f := fun k => qc.j2 k p rows (w : Int) out heads (c : Int) (i : Int) ((i + 1 : Nat) : Int) false) (fun k => ?_) (hfin (i + 1))
          rw [qc.l1]
          split
          · rw [decide_eq_false (by omega)]
          · rfl
theorem qkl {p : Int} {w : Nat} (hp : 7 ≤ p ∧ p ≤ 31) {rows out : List (List Int)} {heads : List Int} {c at_ : Nat} {row : List Int} {R : List (List Int) × List Int} (hc : c < w) (hw : w ≤ 1000) (hlen : rows.length < 1000000) (hr : okR p w rows) (hrow : row.length = w ∧ ∀ x ∈ row, 0 ≤ x ∧ x < p) (hat : at_ < rows.length)
    (hend : Ev (fun k => qc.l3 k p ((rows.eraseIdx at_).map fun r => jm p (rd r (c : Int)) row r) (w : Int) out heads (c : Int) row 0) R) :
    ∀ (d i : Nat), i + d = rows.length → Ev (fun k => qc.l2 k p rows (w : Int) out heads (c : Int) (at_ : Int) row (((rows.take i).eraseIdx at_).map fun r => jm p (rd r (c : Int)) row r) (i : Int)) R
  | 0, i, he => by
    refine Ev.step (f := fun k => qc.l3 k p ((rows.eraseIdx at_).map fun r => jm p (rd r (c : Int)) row r) (w : Int) out heads (c : Int) row 0) (fun k => ?_) hend
    rw [qc.l2, if_neg (by omega), List.take_of_length_le (by omega)]
  | d + 1, i, he => by
    have hi : i < rows.length := by omega
    have ih := qkl hp hc hw hlen hr hrow hat hend d (i + 1) (by omega)
    by_cases e : i = at_
    · subst e
      refine Ev.step (f := fun k => qc.l2 k p rows (w : Int) out heads (c : Int) (i : Int) row (((rows.take (i + 1)).eraseIdx i).map fun r => jm p (rd r (c : Int)) row r) ((i + 1 : Nat) : Int)) (fun k => ?_) ih
      rw [qc.l2, if_pos (by omega), if_pos rfl, wsm (by omega) (by omega)]
      have e1 : (rows.take i).eraseIdx i = rows.take i := List.eraseIdx_of_length_le (by rw [List.length_take]; omega)
      have e2 : (rows.take (i + 1)).eraseIdx i = rows.take i := by
        rw [List.take_add_one, List.eraseIdx_append_of_length_le (by rw [List.length_take]; omega)]
        simp [Nat.min_eq_left (Nat.le_of_lt hi), List.getElem?_eq_getElem hi]
      rw [e1, e2]
      rfl
    · have hrow_i := hr _ (Q3 hi)
      have ht := qdy hrow_i c hc
      refine Ev.step (f := fun k => (zb.f k p (rows.getD i []) (rd (rows.getD i []) (c : Int)) row).bind fun t => if (((rows.take i).eraseIdx at_).map fun r => jm p (rd r (c : Int)) row r).length < 5864062014805 then qc.l2 k p rows (w : Int) out heads (c : Int) (at_ : Int) row ((((rows.take i).eraseIdx at_).map fun r => jm p (rd r (c : Int)) row r) ++ [t]) ((i + 1 : Nat) : Int) else none) (fun k => ?_) ?_
      · rw [qc.l2, if_pos (by omega), if_neg (by omega), if_pos (by omega), if_pos (by omega), qag, if_pos (by omega), wsm (by omega) (by omega)]
        rfl
      · refine Ev.bind (qf6 hp ht hrow hrow_i hw) (Ev.yes ?_ ?_)
        · rw [List.length_map]
          have h1 := List.length_eraseIdx_le (rows.take i) at_
          have h2 : (rows.take i).length ≤ rows.length := by rw [List.length_take]; omega
          omega
        · have e2 : ((rows.take (i + 1)).eraseIdx at_).map (fun r => jm p (rd r (c : Int)) row r) = ((rows.take i).eraseIdx at_).map (fun r => jm p (rd r (c : Int)) row r) ++ [jm p (rd (rows.getD i []) (c : Int)) row (rows.getD i [])] := by
            have e3 : rows.take (i + 1) = rows.take i ++ [rows.getD i []] := by
              rw [List.take_add_one, List.getElem?_eq_getElem hi, List.getD_eq_getElem?_getD, List.getElem?_eq_getElem hi]; rfl
            by_cases hlt : at_ < i
            · rw [e3, List.eraseIdx_append_of_lt_length (by simp; omega), List.map_append]; rfl
            · rw [List.eraseIdx_of_length_le (by simp; omega), List.eraseIdx_of_length_le (by simp; omega), e3, List.map_append]; rfl
          rw [e2] at ih
          exact ih
theorem qmh {α : Type} (N R : List α) (j : Nat) (v : α) (hl : N.length = R.length) (hj : j < R.length) (hv : N[j]? = some v) : (N.take j ++ R.drop j).set j v = N.take (j + 1) ++ R.drop (j + 1) := by
  rw [List.set_append_right _ _ (by simp; omega), List.length_take, Nat.min_eq_left (by omega), Nat.sub_self, List.drop_eq_getElem_cons hj, List.set_cons_zero, List.take_add_one, hv]
  simp
theorem qka {p : Int} {w : Nat} (hp : 7 ≤ p ∧ p ≤ 31) {rest out : List (List Int)} {heads : List Int} {c : Nat} {row : List Int} {R : List (List Int) × List Int} (hc : c < w) (hw : w ≤ 1000) (hlen : out.length < 1000000) (hh : heads.length < 1000000) (hr : okR p w out) (hrow : row.length = w ∧ ∀ x ∈ row, 0 ≤ x ∧ x < p)
    (hend : Ev (fun k => qc.l0 k p rest (w : Int) ((out.map fun r => jm p (rd r (c : Int)) row r) ++ [row]) (heads ++ [(c : Int)]) ((c + 1 : Nat) : Int)) R) :
    ∀ (d i : Nat), i + d = out.length → Ev (fun k => qc.l3 k p rest (w : Int) ((out.map fun r => jm p (rd r (c : Int)) row r).take i ++ out.drop i) heads (c : Int) row (i : Int)) R
  | 0, i, he => by
    refine Ev.step (f := fun k => qc.l0 k p rest (w : Int) ((out.map fun r => jm p (rd r (c : Int)) row r) ++ [row]) (heads ++ [(c : Int)]) ((c + 1 : Nat) : Int)) (fun k => ?_) hend
    rw [List.drop_eq_nil_of_le (by omega), List.append_nil, List.take_of_length_le (by simp; omega), qc.l3, if_neg (by simp; omega), if_pos (by simp; omega), if_pos (by omega), wsm (by omega) (by omega)]
    rfl
  | d + 1, i, he => by
    have hi : i < out.length := by omega
    have ih := qka hp hc hw hlen hh hr hrow hend d (i + 1) (by omega)
    have hrow_i := hr _ (Q3 hi)
    have ht := qdy hrow_i c hc
    have hcur : ((out.map fun r => jm p (rd r (c : Int)) row r).take i ++ out.drop i).getD i [] = out.getD i [] := by
      simp [List.getD_eq_getElem?_getD, List.getElem?_append_right, Nat.min_eq_left (Nat.le_of_lt hi), hi]
    have hcl : ((out.map fun r => jm p (rd r (c : Int)) row r).take i ++ out.drop i).length = out.length := by simp; omega
    have hset : ((out.map fun r => jm p (rd r (c : Int)) row r).take i ++ out.drop i).set i (jm p (rd (out.getD i []) (c : Int)) row (out.getD i [])) = (out.map fun r => jm p (rd r (c : Int)) row r).take (i + 1) ++ out.drop (i + 1) :=
      qmh _ _ _ _ (by simp) hi (by simp [List.getD_eq_getElem?_getD, List.getElem?_eq_getElem hi])
    refine Ev.step (f := fun k => (zb.f k p (out.getD i []) (rd (out.getD i []) (c : Int)) row).bind fun t => qc.l3 k p rest (w : Int) (((out.map fun r => jm p (rd r (c : Int)) row r).take i ++ out.drop i).set i t) heads (c : Int) row ((i + 1 : Nat) : Int)) (fun k => ?_) ?_
    · rw [qc.l3, if_pos (by omega), if_pos (by omega), if_pos (by omega), qag, hcur, if_pos (by omega), wsm (by omega) (by omega), Int.toNat_natCast]
      rfl
    · refine Ev.bind (qf6 hp ht hrow hrow_i hw) ?_
      rw [hset]
      exact ih
theorem qcj {p : Int} (hp : zk p = true) {w : Nat} (hw : w ≤ 1000) : ∀ (d c : Nat) (L O : List (List Int)) (H : List Int), c + d = w → okR p w L → okR p w O → qdf c L → L.length + O.length < 1000000 → H.length = O.length →
    Ev (fun k => qc.l0 k p L (w : Int) O H (c : Int)) (redP p d c L O, J6 p d c L H)
  | 0, c, L, O, H, hc, _, _, _, _, _ => by
    refine Ev.step (f := fun _ => some (O, H)) (fun k => ?_) (Ev.now _)
    rw [qc.l0, if_neg (by omega)]
  | d + 1, c, L, O, H, hc, hL, hO, hz, hl, hH => by
    have hb := zw hp
    refine Ev.step (f := fun k => qc.l1 k p L (w : Int) O H (c : Int) (-1) ((0 : Nat) : Int)) (fun k => ?_) ?_
    · rw [qc.l0, if_pos (by omega)]; rfl
    · refine qge (by omega) hw (by omega) (fun r hr => (hL r hr).1) (fun hf => ?_) (fun i hf => ?_) L.length 0 (by omega) rfl
      · have ih := qcj hp hw d (c + 1) L O H (by omega) hL hO (qdv hz hf) hl hH
        rw [redP, J6, hf]
        exact ih
      · obtain ⟨hi, hne⟩ := qc6 hf
        have hx := hL _ (Q3 hi)
        have hne' : rd (L.getD i []) (c : Int) ≠ 0 := by simpa using hne
        have hs := qcq (p := p) (b := invP p (rd (L.getD i []) (c : Int))) (by omega) hx.1
        have hzn := qdp hp (by omega) hL hz hf
        have ih := qcj hp hw d (c + 1) ((L.eraseIdx i).map fun r => jm p (rd r (c : Int)) (Qu p (invP p (rd (L.getD i []) (c : Int))) (L.getD i [])) r) ((O.map fun r => jm p (rd r (c : Int)) (Qu p (invP p (rd (L.getD i []) (c : Int))) (L.getD i [])) r) ++ [Qu p (invP p (rd (L.getD i []) (c : Int))) (L.getD i [])]) (H ++ [(c : Int)]) (by omega)
          (qbh _ (by omega) hs.1 (qbt i hL)) (qg0 (qbh _ (by omega) hs.1 hO) (qie hs (qd9 p w))) hzn (by simp [List.length_eraseIdx, hi]; omega) (by simp [hH])
        rw [redP, J6, hf]
        simp only
        refine Ev.bind (a := Qu p (invP p (rd (L.getD i []) (c : Int))) (L.getD i [])) ?_ ?_
        · have h1 := qbe hp (L.getD i []) hx.2 (by omega)
          rwa [qou (by omega) (hz _ (Q3 hi)) hne'] at h1
        · have h2 := qka hb (c := c) (heads := H) (out := O) (rest := (L.eraseIdx i).map fun r => jm p (rd r (c : Int)) (Qu p (invP p (rd (L.getD i []) (c : Int))) (L.getD i [])) r) (by omega) hw (by omega) (by omega) hO hs ih O.length 0 (by omega)
          have h3 := qkl hb (c := c) (by omega) hw (by omega) hL hs hi (by simpa using h2) L.length 0 (by omega)
          simpa using h3
theorem qdt {p : Int} (hp : zk p = true) {w : Nat} (hw : w ≤ 1000) (L : List (List Int)) (hL : okR p w L) (hl : L.length < 1000000) : Ev (fun k => qc.f k p L (w : Int)) (redP p w 0 L [], J6 p w 0 L []) := by
  unfold qc.f
  exact qcj hp hw w 0 L [] [] (by omega) hL (qd9 p w) (fun _ _ j hj => absurd hj (by omega)) (by simpa using hl) rfl
end Go.Proofs.Ytmgbpmihbljngaa.PA
namespace Go.Proofs.Ytmgbpmihbljngaa.PA
open Go.RowKit Go.Proofs.YtmgbpmihbljngaaW.PrintWords Go.Proofs.YtmgbpmihbljngaaW.PrintLast Go.Proofs.YtmgbpmihbljngaaW.PrintMore
set_option linter.unusedVariables false
set_option linter.unusedSimpArgs false
theorem qim (p x y z : Int) (hx : 0 ≤ x ∧ x ≤ 100) (hy : 0 ≤ y ∧ y ≤ 100) (hz : 0 ≤ z ∧ z ≤ 100) : ∃ r, Ev (fun k => zm.f k p x y z) r := by
  cases hp : zk p with
  | false =>
    refine ⟨(0, 0, 0, false), ?_⟩
    unfold zm.f
    refine Ev.bind (Ev.k (qa7 p)) ?_
    rw [hp]
    exact Ev.no (by simp) (Ev.step (f := fun _ => some (0, 0, 0, false)) (fun k => by rw [zm.j0, if_pos rfl]) (Ev.now _))
  | true =>
    have hb := zw hp
    have hi : ∀ w : Int, 0 ≤ w ∧ w ≤ 100 → z5.f w (-1000) 1000 = some true := fun w hw => by
      rw [qor, decide_eq_true (show (-1000 : Int) ≤ w by omega), decide_eq_true (show w ≤ 1000 by omega)]; rfl
    have hm : ∀ w : Int, 0 ≤ w ∧ w ≤ 100 → jl.f p w = some (w % p) := fun w hw => by
      rw [qaq _ _ (by omega), ← Zh ⟨by omega, by omega⟩ (show -1000000000 ≤ w by omega) (by omega), wsm (by omega) (by omega)]
    have hr : ∀ w ∈ [x % p, y % p, z % p], 0 ≤ w ∧ w < p := fun w hw => by
      simp only [List.mem_cons, List.not_mem_nil, or_false] at hw
      rcases hw with rfl | rfl | rfl <;> exact ⟨Int.emod_nonneg _ (by omega), Int.emod_lt_of_pos _ (by omega)⟩
    have hj : ∃ r, Ev (fun k => zm.j0 k p x y z false) r := by
      cases hz0 : ([x % p, y % p, z % p].all fun x => x == 0) with
      | true =>
        refine ⟨(0, 0, 0, false), Ev.step (fun k => by rw [zm.j0, if_neg (by simp), hm x hx, Option.bind_some, hm y hy, Option.bind_some, hm z hz, Option.bind_some, Option.bind_some]) (Ev.bind (Jy _ (by simp)) ?_)⟩
        rw [hz0]
        exact Ev.yes rfl (Ev.now _)
      | false =>
        refine ⟨(rd (rowP p [x % p, y % p, z % p]) 0, rd (rowP p [x % p, y % p, z % p]) 1, rd (rowP p [x % p, y % p, z % p]) 2, true), Ev.step (fun k => by rw [zm.j0, if_neg (by simp), hm x hx, Option.bind_some, hm y hy, Option.bind_some, hm z hz, Option.bind_some, Option.bind_some]) (Ev.bind (Jy _ (by simp)) ?_)⟩
        rw [hz0]
        refine Ev.no (by simp) ?_
        have hP : Ev (fun k => jj.f k p [x % p, y % p, z % p]) (rd (rowP p [x % p, y % p, z % p]) 0, rd (rowP p [x % p, y % p, z % p]) 1, rd (rowP p [x % p, y % p, z % p]) 2) := by
          unfold jj.f
          exact Ev.bind (qbe hp _ hr (by simp)) (Ev.yes (by simp [rowP]) (Ev.yes (by simp [rowP]) (Ev.yes (by simp [rowP]) (Ev.now _))))
        exact Ev.bind hP (Ev.now _)
    obtain ⟨r, hr2⟩ := hj
    refine ⟨r, ?_⟩
    unfold zm.f
    refine Ev.bind (Ev.k (qa7 p)) ?_
    rw [hp]
    exact Ev.yes rfl (Ev.bind (Ev.k (hi x hx)) (Ev.yes rfl (Ev.bind (Ev.k (hi y hy)) (Ev.yes rfl (Ev.bind (Ev.k (hi z hz)) hr2)))))
theorem qbg (b : List Int) (hb : qac b) (p s : Int) (hp : 1 ≤ p ∧ p ≤ 31) (h0 : 0 ≤ s) (h1 : s ≤ 900000) : ∃ x y z s', Ev (fun k => jg.f k b s p) (x, y, z, s') ∧ s ≤ s' ∧ s' ≤ s + 10 := by
  obtain ⟨u, hu, u0, u1⟩ := Q6 b hb s 3 h0 (by omega)
  obtain ⟨v, hv, v0, v1⟩ := Q6 b hb (s + 1) p (by omega) (by omega)
  obtain ⟨w, hw, w0, w1⟩ := Q6 b hb (s + 1 + 1) p (by omega) (by omega)
  have u2 := u1 (by omega)
  have v2 := v1 (by omega)
  have w2 := w1 (by omega)
  obtain ⟨⟨x, y, z, ok⟩, hr⟩ := qim p u v w ⟨u0, by omega⟩ ⟨v0, by omega⟩ ⟨w0, by omega⟩
  unfold jg.f
  cases ok with
  | false => exact ⟨0, 0, 1, s + 1 + 1 + 1, Ev.bind hu (Ev.bind hv (Ev.bind hw (Ev.bind hr (Ev.no (by simp) (Ev.now _))))), by omega, by omega⟩
  | true =>
    obtain ⟨t, ht, t0, t1⟩ := Q6 b hb (s + 1 + 1 + 1) 24 (by omega) (by omega)
    by_cases e : t = 0
    · exact ⟨2, y, z, s + 1 + 1 + 1 + 1, Ev.bind hu (Ev.bind hv (Ev.bind hw (Ev.bind hr (Ev.yes rfl (Ev.bind ht (Ev.yes e (Ev.now _))))))), by omega, by omega⟩
    · exact ⟨x, y, z, s + 1 + 1 + 1 + 1, Ev.bind hu (Ev.bind hv (Ev.bind hw (Ev.bind hr (Ev.yes rfl (Ev.bind ht (Ev.no e (Ev.now _))))))), by omega, by omega⟩
end Go.Proofs.Ytmgbpmihbljngaa.PA
namespace Go.Proofs.Ytmgbpmihbljngaa.PA
open Go.RowKit Go.Proofs.YtmgbpmihbljngaaW.PrintWords Go.Proofs.YtmgbpmihbljngaaW.PrintLast Go.Proofs.YtmgbpmihbljngaaW.PrintMore
set_option linter.unusedVariables false
set_option linter.unusedSimpArgs false
def qhf (l : List Int) : Bool := (l.find? (fun x => x != 0)) == some 1
def Q1 (p : Int) (a : List Int) : Bool := Zx p a 4 && qhf a
end Go.Proofs.Ytmgbpmihbljngaa.PA
namespace Go.Proofs.Ytmgbpmihbljngaa.PA
open Go.RowKit Go.Proofs.YtmgbpmihbljngaaW.PrintWords Go.Proofs.YtmgbpmihbljngaaW.PrintLast Go.Proofs.YtmgbpmihbljngaaW.PrintMore
set_option linter.unusedVariables false
set_option linter.unusedSimpArgs false
def ptB (p x y z : Int) : Bool := Zx p [x, y, z] 3 && qhf [x, y, z]
theorem ql2 {p : Int} (hp : zk p = true) {l : List Int} (hr : ∀ x ∈ l, 0 ≤ x ∧ x < p) : ((rowP p l).all fun x => x == 0) = l.all fun x => x == 0 := by
  have hb := zw hp
  rw [Bool.eq_iff_iff, List.all_eq_true, List.all_eq_true]
  unfold rowP
  constructor
  · intro h x hx
    cases hf : l.find? (fun x => x != 0) with
    | none => have := List.find?_eq_none.1 hf x hx; simpa using this
    | some y =>
      have hy := List.mem_of_find?_eq_some hf
      have hy0 : y ≠ 0 := by simpa using List.find?_some hf
      have h1 := h _ (List.mem_map.2 ⟨y, hy, rfl⟩)
      rw [qd0, hf] at h1
      have := (Ze hp (hr y hy).1 (hr y hy).2).2.2.2.1 hy0
      simp only [Option.getD_some] at h1
      rw [this] at h1
      simp at h1
  · intro h x hx
    obtain ⟨y, hy, rfl⟩ := List.mem_map.1 hx
    have := h y hy
    simp at this
    simp [this]
end Go.Proofs.Ytmgbpmihbljngaa.PA
namespace Go.Proofs.Ytmgbpmihbljngaa.PA
open Go.RowKit Go.Proofs.YtmgbpmihbljngaaW.PrintWords Go.Proofs.YtmgbpmihbljngaaW.PrintLast Go.Proofs.YtmgbpmihbljngaaW.PrintMore
set_option linter.unusedVariables false
set_option linter.unusedSimpArgs false
theorem qgd {p : Int} (hp : zk p = true) {l : List Int} (hr : ∀ x ∈ l, 0 ≤ x ∧ x < p) : (!(l.all fun x => x == 0) && decide (rowP p l = l)) = qhf l := by
  have hb := zw hp
  unfold qhf rowP qd0
  cases h : l.find? (fun x => x != 0) with
  | none =>
    have : (l.all fun x => x == 0) = true := by
      rw [List.all_eq_true]
      intro x hx
      have := List.find?_eq_none.1 h x hx
      simpa using this
    rw [this]; rfl
  | some y =>
    have hy := List.mem_of_find?_eq_some h
    have hy0 : y ≠ 0 := by simpa using List.find?_some h
    have hall : (l.all fun x => x == 0) = false := by
      rw [Bool.eq_false_iff]
      intro e
      exact hy0 (by simpa using List.all_eq_true.1 e y hy)
    rw [hall]
    simp only [Bool.not_false, Bool.true_and, Option.getD_some]
    rw [Bool.eq_iff_iff, decide_eq_true_iff, beq_iff_eq]
    constructor
    · intro e
      have e1 : y * invP p y % p = y := by
        have h2 : ∀ (m : List Int), (m.map fun x => x * invP p y % p) = m → y ∈ m → y * invP p y % p = y := by
          intro m
          induction m with
          | nil => intro _ h; simp at h
          | cons z m ih =>
            intro e h
            rw [List.map_cons] at e
            injection e with e1 e2
            rcases List.mem_cons.1 h with rfl | h
            · exact e1
            · exact ih e2 h
        exact h2 l e hy
      have := (Ze hp (hr y hy).1 (hr y hy).2).2.2.2.1 hy0
      rw [this] at e1
      rw [← e1]
    · intro e
      injection e with e
      subst e
      rw [qns hp]
      refine (List.map_congr_left (g := id) fun x hx => ?_).trans (List.map_id _)
      rw [Int.mul_one, Int.emod_eq_of_lt (hr x hx).1 (hr x hx).2]; rfl
end Go.Proofs.Ytmgbpmihbljngaa.PA
namespace Go.Proofs.Ytmgbpmihbljngaa.PA
open Go.RowKit Go.Proofs.YtmgbpmihbljngaaW.PrintWords Go.Proofs.YtmgbpmihbljngaaW.PrintLast Go.Proofs.YtmgbpmihbljngaaW.PrintMore
set_option linter.unusedVariables false
set_option linter.unusedSimpArgs false
theorem qoh {p : Int} (hp : zk p = true) (x y z : Int) : Ev (fun k => zy.f k p x y z) (ptB p x y z) := by
  have hb := zw hp
  have hlin : ∀ x, linB p x = true ↔ 0 ≤ x ∧ x < p := fun x => by
    rw [linB, wsm (by omega) (by omega), Bool.and_eq_true, decide_eq_true_iff, decide_eq_true_iff]; omega
  have hno : ∀ w ∈ [x, y, z], ¬ linB p w = true → ptB p x y z = false := fun w hw hn => by
    cases hh : ptB p x y z with
    | false => rfl
    | true =>
      rw [ptB, Bool.and_eq_true] at hh
      exact absurd ((hlin w).2 ((Qo hh.1).2.2 w hw)) hn
  unfold zy.f
  by_cases h1 : linB p x = true
  · refine Ev.yes h1 ?_
    by_cases h2 : linB p y = true
    · refine Ev.yes h2 ?_
      by_cases h3 : linB p z = true
      · refine Ev.yes h3 ?_
        have hr : ∀ w ∈ [x, y, z], 0 ≤ w ∧ w < p := fun w hw => by
          simp only [List.mem_cons, List.not_mem_nil, or_false] at hw
          rcases hw with rfl | rfl | rfl
          · exact (hlin _).1 h1
          · exact (hlin _).1 h2
          · exact (hlin _).1 h3
        refine Ev.bind (qbe hp [x, y, z] hr (by simp)) (Ev.bind (Jy _ (by simp [rowP])) ?_)
        have hn : Zx p [x, y, z] 3 = true := qfc hp rfl hr
        rw [ql2 hp hr, ptB, hn, Bool.true_and, ← qgd hp hr]
        cases hz : [x, y, z].all (fun x => x == 0) with
        | true => exact Ev.yes rfl (Ev.now _)
        | false =>
          refine Ev.no (by simp) (Ev.yes (by simp [rowP]) ?_)
          have e : ((rd (rowP p [x, y, z]) 0 == x) && (rd (rowP p [x, y, z]) 1 == y) && (rd (rowP p [x, y, z]) 2 == z)) = (!false && decide (rowP p [x, y, z] = [x, y, z])) := by
            rw [Bool.eq_iff_iff]
            simp [rowP, rd, and_assoc]
          rw [← e]
          exact Ev.now _
      · rw [hno z (by simp) h3]; exact Ev.no h3 (Ev.now _)
    · rw [hno y (by simp) h2]; exact Ev.no h2 (Ev.now _)
  · rw [hno x (by simp) h1]; exact Ev.no h1 (Ev.now _)
end Go.Proofs.Ytmgbpmihbljngaa.PA
namespace Go.Proofs.Ytmgbpmihbljngaa.PA
open Go.RowKit Go.Proofs.YtmgbpmihbljngaaW.PrintWords Go.Proofs.YtmgbpmihbljngaaW.PrintLast Go.Proofs.YtmgbpmihbljngaaW.PrintMore
set_option linter.unusedVariables false
set_option linter.unusedSimpArgs false
theorem qck (p x y z : Int) : Ev (fun k => z9.f k p x y z) (ptB p x y z) := by
  unfold z9.f
  refine Ev.bind (Ev.k (qa7 p)) ?_
  cases hp : zk p with
  | true => exact Ev.yes rfl (Ev.bind (qoh hp x y z) (Ev.now _))
  | false =>
    rw [show ptB p x y z = false by simp [ptB, Zx, hp]]
    exact Ev.no (by simp) (Ev.now _)
end Go.Proofs.Ytmgbpmihbljngaa.PA
namespace Go.Proofs.Ytmgbpmihbljngaa.PA
open Go.RowKit Go.Proofs.YtmgbpmihbljngaaW.PrintWords Go.Proofs.YtmgbpmihbljngaaW.PrintLast Go.Proofs.YtmgbpmihbljngaaW.PrintMore
set_option linter.unusedVariables false
set_option linter.unusedSimpArgs false
theorem Qb {p x y : Int} (hp : 7 ≤ p ∧ p ≤ 31) (hx : 0 ≤ x ∧ x < p) (hy : 0 ≤ y ∧ y < p) : 0 ≤ x * y ∧ x * y ≤ 900 := qfd hp.2 hx.1 hx.2 hy.1 hy.2
def crsP (p : Int) (a b : Int × Int × Int) : List Int := [(a.2.1 * b.2.2 - a.2.2 * b.2.1) % p, (a.2.2 * b.1 - a.1 * b.2.2) % p, (a.1 * b.2.1 - a.2.1 * b.1) % p]
def inP (p : Int) (a : Int × Int × Int) : Prop := (0 ≤ a.1 ∧ a.1 < p) ∧ (0 ≤ a.2.1 ∧ a.2.1 < p) ∧ (0 ≤ a.2.2 ∧ a.2.2 < p)
theorem Jw {p : Int} {a : Int × Int × Int} (h : ptB p a.1 a.2.1 a.2.2 = true) : inP p a := by
  rw [ptB, Bool.and_eq_true] at h
  have := (Qo h.1).2.2
  exact ⟨this _ (by simp), this _ (by simp), this _ (by simp)⟩
theorem qjx {p : Int} (hp : 7 ≤ p ∧ p ≤ 31) (a b : Int × Int × Int) (ha : inP p a) (hb : inP p b) : Qa.f p a.1 a.2.1 a.2.2 b.1 b.2.1 b.2.2 = some (crsP p a b) := by
  obtain ⟨a0, a1, a2⟩ := ha
  obtain ⟨b0, b1, b2⟩ := hb
  have m1 := Qb hp a1 b2
  have m2 := Qb hp a2 b1
  have m3 := Qb hp a2 b0
  have m4 := Qb hp a0 b2
  have m5 := Qb hp a0 b1
  have m6 := Qb hp a1 b0
  unfold Qa.f
  rw [wsm (i := a.2.1 * b.2.2) (by omega) (by omega), wsm (i := a.2.2 * b.2.1) (by omega) (by omega), wsm (i := a.2.2 * b.1) (by omega) (by omega), wsm (i := a.1 * b.2.2) (by omega) (by omega), wsm (i := a.1 * b.2.1) (by omega) (by omega), wsm (i := a.2.1 * b.1) (by omega) (by omega),
    qaq _ _ (by omega), qaq _ _ (by omega), qaq _ _ (by omega), Zh hp (by omega) (by omega), Zh hp (by omega) (by omega), Zh hp (by omega) (by omega)]
  rfl
theorem qog {p : Int} (hp : 7 ≤ p ∧ p ≤ 31) (a : Int × Int × Int) (ha : inP p a) (x y z : Int) (hx : 0 ≤ x ∧ x < p) (hy : 0 ≤ y ∧ y < p) (hz : 0 ≤ z ∧ z < p) : Jb.f p a.1 a.2.1 a.2.2 [x, y, z] = some ((a.1 * x + a.2.1 * y + a.2.2 * z) % p == 0) := by
  obtain ⟨a0, a1, a2⟩ := ha
  have m1 := Qb hp a0 hx
  have m2 := Qb hp a1 hy
  have m3 := Qb hp a2 hz
  unfold Jb.f
  rw [if_pos (by simp), if_pos (by simp), if_pos (by simp), if_neg (by omega)]
  simp only [rd, Int.toNat_zero, Int.toNat_one, show (2 : Int).toNat = 2 from rfl, List.getD_cons_zero, List.getD_cons_succ]
  rw [wsm (i := a.1 * x) (by omega) (by omega), wsm (i := a.2.1 * y) (by omega) (by omega), wsm (i := a.2.2 * z) (by omega) (by omega), wsm (i := a.1 * x + a.2.1 * y) (by omega) (by omega), wsm (by omega) (by omega), Int.tmod_eq_emod_of_nonneg (by omega)]
def colB (p : Int) (a b c : Int × Int × Int) : Bool := (c.1 * (a.2.1 * b.2.2 - a.2.2 * b.2.1) + c.2.1 * (a.2.2 * b.1 - a.1 * b.2.2) + c.2.2 * (a.1 * b.2.1 - a.2.1 * b.1)) % p == 0
theorem mod3 (p x y z u v w : Int) : (x * (u % p) + y * (v % p) + z * (w % p)) % p = (x * u + y * v + z * w) % p := by
  have e : x * (u % p) + y * (v % p) + z * (w % p) = x * u + y * v + z * w + p * (-(x * (u / p) + y * (v / p) + z * (w / p))) := by
    simp only [Int.emod_def]; grind
  rw [e, Int.add_mul_emod_self_left]
theorem qmw {p : Int} (hp : 7 ≤ p ∧ p ≤ 31) (a b c : Int × Int × Int) (hc : inP p c) : Jb.f p c.1 c.2.1 c.2.2 (crsP p a b) = some (colB p a b c) := by
  have hm : ∀ y : Int, 0 ≤ y % p ∧ y % p < p := fun y => ⟨Int.emod_nonneg _ (by omega), Int.emod_lt_of_pos _ (by omega)⟩
  rw [crsP, qog hp c hc _ _ _ (hm _) (hm _) (hm _), colB]
  congr 2
  exact mod3 p _ _ _ _ _ _
end Go.Proofs.Ytmgbpmihbljngaa.PA
namespace Go.Proofs.Ytmgbpmihbljngaa.PA
open Go.RowKit Go.Proofs.YtmgbpmihbljngaaW.PrintWords Go.Proofs.YtmgbpmihbljngaaW.PrintLast Go.Proofs.YtmgbpmihbljngaaW.PrintMore
set_option linter.unusedVariables false
set_option linter.unusedSimpArgs false
def tpl (x : S43) : Int × Int × Int := (x.f0.f0, x.f0.f1, x.f0.f2)
def tps (l : List S43) : List (Int × Int × Int) := l.map tpl
theorem qbq (l : List S43) (i : Nat) (hi : i < l.length) : tpl (qd l (i : Int)) = (tps l).getD i (0, 0, 0) := by
  simp [qd, tps, List.getD_eq_getElem?_getD, hi]
def allN (f : Nat → Bool) : Nat → Nat → Bool
  | 0, _ => true
  | d + 1, i => f i && allN f d (i + 1)
theorem qcr (f : Nat → Bool) : ∀ d i, allN f d i = true ↔ ∀ j, i ≤ j → j < i + d → f j = true
  | 0, i => by simp [allN]; omega
  | d + 1, i => by
    rw [allN, Bool.and_eq_true, qcr f d (i + 1)]
    constructor
    · intro h j h1 h2
      by_cases e : j = i
      · subst e; exact h.1
      · exact h.2 j (by omega) (by omega)
    · intro h
      exact ⟨h i (by omega) (by omega), fun j h1 h2 => h j (by omega) (by omega)⟩
def apI (p : Int) (Q : List (Int × Int × Int)) (i : Nat) : Bool := ptB p (Q.getD i (0, 0, 0)).1 (Q.getD i (0, 0, 0)).2.1 (Q.getD i (0, 0, 0)).2.2 && allN (fun k => allN (fun j => !colB p (Q.getD k (0, 0, 0)) (Q.getD j (0, 0, 0)) (Q.getD i (0, 0, 0))) k 0) i 0
def Jt (p : Int) (Q : List (Int × Int × Int)) : Bool := allN (apI p Q) Q.length 0
theorem qj4 {p : Int} (hp : zk p = true) (l : List S43) (hl : l.length ≤ 1000000) : Ev (fun k => qq.f k p l) (Jt p (tps l)) := by
  have hb := zw hp
  have hlen : (tps l).length = l.length := by simp [tps]
  have hpt : ∀ (i : Nat), i < l.length → Ev (fun k => z9.f k p (qd l (i : Int)).f0.f0 (qd l (i : Int)).f0.f1 (qd l (i : Int)).f0.f2) (ptB p ((tps l).getD i (0, 0, 0)).1 ((tps l).getD i (0, 0, 0)).2.1 ((tps l).getD i (0, 0, 0)).2.2) := fun i hi => by
    rw [← qbq l i hi]; exact qck _ _ _ _
  have h2 : ∀ (i k : Nat) (R : Bool), i < l.length → k < i → (∀ j, j < i → inP p ((tps l).getD j (0, 0, 0))) → inP p ((tps l).getD i (0, 0, 0)) → Ev (fun q => qq.l1 q p l (i : Int) ((k + 1 : Nat) : Int)) R → ∀ (d j : Nat), j + d = k → Ev (fun q => qq.l2 q p l (i : Int) (k : Int) (j : Int)) (allN (fun j => !colB p ((tps l).getD k (0, 0, 0)) ((tps l).getD j (0, 0, 0)) ((tps l).getD i (0, 0, 0))) d j && R) := by
    intro i k R hi hk hin hii hend d
    induction d with
    | zero =>
      intro j hj
      refine Ev.step (fun q => by rw [qq.l2, if_neg (by omega), wsm (by omega) (by omega)]) ?_
      rw [allN, Bool.true_and]
      exact hend
    | succ d ih =>
      intro j hj
      have e1 : ∀ m : Nat, m < l.length → (qd l (m : Int)).f0.f0 = ((tps l).getD m (0, 0, 0)).1 ∧ (qd l (m : Int)).f0.f1 = ((tps l).getD m (0, 0, 0)).2.1 ∧ (qd l (m : Int)).f0.f2 = ((tps l).getD m (0, 0, 0)).2.2 := fun m hm => by rw [← qbq l m hm]; exact ⟨rfl, rfl, rfl⟩
      obtain ⟨a1, a2, a3⟩ := e1 i hi
      obtain ⟨b1, b2, b3⟩ := e1 k (by omega)
      obtain ⟨c1, c2, c3⟩ := e1 j (by omega)
      refine Ev.step (fun q => by rw [qq.l2, if_pos (by omega), if_pos (by omega), if_pos (by omega), if_pos (by omega), if_pos (by omega), if_pos (by omega), if_pos (by omega), a1, a2, a3, b1, b2, b3, c1, c2, c3, qjx ⟨by omega, by omega⟩ _ _ (hin k hk) (hin j (by omega)), Option.bind_some, qmw ⟨by omega, by omega⟩ _ _ _ hii, Option.bind_some, wsm (by omega) (by omega)]) ?_
      rw [allN]
      cases hc : colB p ((tps l).getD k (0, 0, 0)) ((tps l).getD j (0, 0, 0)) ((tps l).getD i (0, 0, 0)) with
      | true => exact Ev.yes rfl (Ev.now _)
      | false =>
        refine Ev.no (by simp) ?_
        have := ih (j + 1) (by omega)
        simpa using this
  have h1 : ∀ (i : Nat) (R : Bool), i < l.length → (∀ j, j < i → inP p ((tps l).getD j (0, 0, 0))) → inP p ((tps l).getD i (0, 0, 0)) → Ev (fun q => qq.l0 q p l ((i + 1 : Nat) : Int)) R → ∀ (d k : Nat), k + d = i → Ev (fun q => qq.l1 q p l (i : Int) (k : Int)) (allN (fun k => allN (fun j => !colB p ((tps l).getD k (0, 0, 0)) ((tps l).getD j (0, 0, 0)) ((tps l).getD i (0, 0, 0))) k 0) d k && R) := by
    intro i R hi hin hii hend d
    induction d with
    | zero =>
      intro k hk
      refine Ev.step (fun q => by rw [qq.l1, if_neg (by omega), wsm (by omega) (by omega)]) ?_
      rw [allN, Bool.true_and]
      exact hend
    | succ d ih =>
      intro k hk
      refine Ev.step (fun q => by rw [qq.l1, if_pos (by omega)]) ?_
      have := h2 i k _ hi (by omega) hin hii (ih (k + 1) (by omega)) k 0 (by omega)
      rw [allN, Bool.and_assoc]
      simpa using this
  have h0 : ∀ (d i : Nat), i + d = l.length → (∀ j, j < i → inP p ((tps l).getD j (0, 0, 0))) → Ev (fun q => qq.l0 q p l (i : Int)) (allN (apI p (tps l)) d i) := by
    intro d
    induction d with
    | zero =>
      intro i hi _
      exact Ev.step (f := fun _ => some true) (fun q => by rw [qq.l0, if_neg (by omega)]) (Ev.now _)
    | succ d ih =>
      intro i hi hin
      refine Ev.step (fun q => by rw [qq.l0, if_pos (by omega), if_pos (by omega)]) (Ev.bind (hpt i (by omega)) ?_)
      rw [allN, apI]
      cases hc : ptB p ((tps l).getD i (0, 0, 0)).1 ((tps l).getD i (0, 0, 0)).2.1 ((tps l).getD i (0, 0, 0)).2.2 with
      | false => exact Ev.no (by simp) (Ev.now _)
      | true =>
        refine Ev.yes rfl ?_
        have hii := Jw hc
        have := h1 i _ (by omega) hin hii (ih (i + 1) (by omega) fun j hj => by
          by_cases e : j = i
          · subst e; exact hii
          · exact hin j (by omega)) i 0 (by omega)
        simpa using this
  unfold qq.f Jt
  rw [hlen]
  exact h0 l.length 0 (by omega) (fun j hj => absurd hj (by omega))
theorem qda {p : Int} (hp : zk p = false) (Q : List (Int × Int × Int)) (h : 0 < Q.length) : Jt p Q = false := by
  obtain ⟨n, hn⟩ : ∃ n, Q.length = n + 1 := ⟨Q.length - 1, by omega⟩
  rw [Jt, hn, allN, apI]
  simp [ptB, Zx, hp]
theorem qgu {p : Int} (hp : zk p = false) (l : List S43) (h : 0 < l.length) : Ev (fun k => qq.f k p l) false := by
  unfold qq.f
  refine Ev.step (fun q => by rw [qq.l0, if_pos (by omega), if_pos (by omega)]) (Ev.bind (qck _ _ _ _) ?_)
  rw [show ptB p _ _ _ = false by simp [ptB, Zx, hp]]
  exact Ev.no (by simp) (Ev.now _)
theorem Zl {p : Int} {Q : List (Int × Int × Int)} (h : Jt p Q = true) : (∀ i, i < Q.length → ptB p (Q.getD i (0, 0, 0)).1 (Q.getD i (0, 0, 0)).2.1 (Q.getD i (0, 0, 0)).2.2 = true) ∧ ∀ i k j, i < Q.length → k < i → j < k → colB p (Q.getD k (0, 0, 0)) (Q.getD j (0, 0, 0)) (Q.getD i (0, 0, 0)) = false := by
  rw [Jt, qcr] at h
  have h1 : ∀ i, i < Q.length → apI p Q i = true := fun i hi => h i (by omega) (by omega)
  refine ⟨fun i hi => ?_, fun i k j hi hk hj => ?_⟩
  · have := h1 i hi
    rw [apI, Bool.and_eq_true] at this
    exact this.1
  · have := h1 i hi
    rw [apI, Bool.and_eq_true, qcr] at this
    have h2 := this.2 k (by omega) (by omega)
    rw [qcr] at h2
    simpa using h2 j (by omega) (by omega)
end Go.Proofs.Ytmgbpmihbljngaa.PA
namespace Go.Proofs.Ytmgbpmihbljngaa.PA
open Go.RowKit Go.Proofs.YtmgbpmihbljngaaW.PrintWords Go.Proofs.YtmgbpmihbljngaaW.PrintLast Go.Proofs.YtmgbpmihbljngaaW.PrintMore
set_option linter.unusedVariables false
set_option linter.unusedSimpArgs false
def fn (r : List Int) (j : Nat) : Int := rd r (j : Int)
theorem Zn {p x y c : Int} (a b : Int) (hx : p ∣ x) (hy : p ∣ y) (h : c = a * x + b * y) : p ∣ c := by
  rw [h]; exact Int.dvd_add (Int.dvd_mul_of_dvd_right hx) (Int.dvd_mul_of_dvd_right hy)
theorem Zq {p x c : Int} (a : Int) (hx : p ∣ x) (h : c = a * x) : p ∣ c := by
  rw [h]; exact Int.dvd_mul_of_dvd_right hx
inductive Sp (p : Int) (w : Nat) (L : List (List Int)) : (Nat → Int) → Prop where
  | zero (v : Nat → Int) : (∀ j, j < w → p ∣ v j) → Sp p w L v
  | add (v u : Nat → Int) (r : List Int) (t : Int) : r ∈ L → Sp p w L u → (∀ j, j < w → p ∣ v j - (u j + t * fn r j)) → Sp p w L v
theorem Sp.congr {p : Int} {w : Nat} {L : List (List Int)} {u v : Nat → Int} (h : Sp p w L u) (he : ∀ j, j < w → p ∣ v j - u j) : Sp p w L v := by
  cases h with
  | zero _ hz => exact .zero v fun j hj => Zn 1 1 (he j hj) (hz j hj) (by omega)
  | add _ u' r t hr hu h2 => exact .add v u' r t hr hu fun j hj => Zn 1 1 (he j hj) (h2 j hj) (by omega)
theorem Sp.sum {p : Int} {w : Nat} {L : List (List Int)} {u v : Nat → Int} (hu : Sp p w L u) (hv : Sp p w L v) : Sp p w L fun j => u j + v j := by
  induction hv with
  | zero v hz => exact hu.congr fun j hj => Zq 1 (hz j hj) (by omega)
  | add v u' r t hr _ h2 ih => exact .add _ _ r t hr ih fun j hj => Zq 1 (h2 j hj) (by omega)
theorem Sp.scale {p : Int} {w : Nat} {L : List (List Int)} {v : Nat → Int} (s : Int) (hv : Sp p w L v) : Sp p w L fun j => s * v j := by
  induction hv with
  | zero v hz => exact .zero _ fun j hj => Zq s (hz j hj) rfl
  | add v u r t hr _ h2 ih => exact .add _ _ r (s * t) hr ih fun j hj => Zq s (h2 j hj) (by rw [Int.mul_sub, Int.mul_add, Int.mul_assoc])
theorem Sp.mem {p : Int} {w : Nat} {L : List (List Int)} {r : List Int} (hr : r ∈ L) : Sp p w L (fn r) :=
  .add _ (fun _ => 0) r 1 hr (.zero _ fun _ _ => Int.dvd_zero p) fun j _ => by simp
theorem Sp.sub {p : Int} {w : Nat} {L M : List (List Int)} (h : ∀ r ∈ L, Sp p w M (fn r)) {v : Nat → Int} (hv : Sp p w L v) : Sp p w M v := by
  induction hv with
  | zero v hz => exact .zero v hz
  | add v u r t hr _ h2 ih => exact (ih.sum ((h r hr).scale t)).congr h2
structure Rref (p : Int) (w : Nat) (P : List (Nat × List Int)) : Prop where
  lt : ∀ x ∈ P, x.1 < w
  ok : ∀ x ∈ P, x.2.length = w ∧ ∀ y ∈ x.2, 0 ≤ y ∧ y < p
  one : ∀ x ∈ P, fn x.2 x.1 = 1
  low : ∀ x ∈ P, ∀ j, j < x.1 → fn x.2 j = 0
  off : ∀ x ∈ P, ∀ y ∈ P, x.1 ≠ y.1 → fn x.2 y.1 = 0
  inc : P.Pairwise fun x y => x.1 < y.1
def cs (P : List (Nat × List Int)) (v : Nat → Int) (j : Nat) : Int := (P.map fun x => v x.1 * fn x.2 j).sum
theorem qd8 {p : Int} : ∀ (l : List Int), (∀ x ∈ l, p ∣ x) → p ∣ l.sum
  | [], _ => by simp
  | x :: l, h => by
    rw [List.sum_cons]
    exact Int.dvd_add (h x (by simp)) (qd8 l fun y hy => h y (by simp [hy]))
theorem qd6 {p : Int} {P : List (Nat × List Int)} {v : Nat → Int} {j : Nat} (h : ∀ x ∈ P, p ∣ v x.1 * fn x.2 j) : p ∣ cs P v j := by
  refine qd8 _ fun y hy => ?_
  obtain ⟨x, hx, rfl⟩ := List.mem_map.1 hy
  exact h x hx
theorem qj6 : ∀ (P : List (Nat × List Int)) (u v : Nat → Int) (t : Int) (j : Nat), cs P (fun i => u i + t * v i) j = cs P u j + t * cs P v j
  | [], _, _, _, _ => by simp [cs]
  | x :: P, u, v, t, j => by
    have ih := qj6 P u v t j
    simp only [cs, List.map_cons, List.sum_cons] at ih ⊢
    rw [ih]
    grind
theorem qoy {p : Int} {w : Nat} {P : List (Nat × List Int)} (hlt : ∀ x ∈ P, x.1 < w) {u v : Nat → Int} (h : ∀ j, j < w → p ∣ v j - u j) (j : Nat) : p ∣ cs P v j - cs P u j := by
  have e : cs P v j - cs P u j = cs P (fun i => v i + (-1) * u i) j := by rw [qj6]; omega
  rw [e]
  exact qd6 fun x hx => Zq (fn x.2 j) (h x.1 (hlt x hx)) (by rw [Int.mul_comm]; congr 1; omega)
theorem qc0 {α : Type} (f : α → Int) (x : α) (A B : List α) (ha : ∀ y ∈ A, f y = 0) (hb : ∀ y ∈ B, f y = 0) : ((A ++ x :: B).map f).sum = f x := by
  have hz : ∀ C : List α, (∀ y ∈ C, f y = 0) → (C.map f).sum = 0 := by
    intro C
    induction C with
    | nil => intro _; rfl
    | cons y C ih => intro h; rw [List.map_cons, List.sum_cons, h y (by simp), ih fun z hz => h z (by simp [hz])]; rfl
  rw [List.map_append, List.sum_append, List.map_cons, List.sum_cons, hz A ha, hz B hb]; omega
theorem qgm {P : List (Nat × List Int)} (hi : P.Pairwise fun x y => x.1 < y.1) {x : Nat × List Int} (hx : x ∈ P) : ∃ A B, P = A ++ x :: B ∧ (∀ y ∈ A, y.1 ≠ x.1) ∧ ∀ y ∈ B, y.1 ≠ x.1 := by
  obtain ⟨A, B, rfl⟩ := List.append_of_mem hx
  rw [List.pairwise_append, List.pairwise_cons] at hi
  exact ⟨A, B, rfl, fun y hy => Nat.ne_of_lt (hi.2.2 y hy x (by simp)), fun y hy => Nat.ne_of_gt (hi.2.1.1 y hy)⟩
theorem Rref.cs_row {p : Int} {w : Nat} {P : List (Nat × List Int)} (h : Rref p w P) {x : Nat × List Int} (hx : x ∈ P) (j : Nat) : cs P (fn x.2) j = fn x.2 j := by
  obtain ⟨A, B, e, ha, hb⟩ := qgm h.inc hx
  have h1 : ∀ y, y ∈ P → y.1 ≠ x.1 → fn x.2 y.1 * fn y.2 j = 0 := fun y hy hn => by rw [h.off x hx y hy (Ne.symm hn), Int.zero_mul]
  rw [cs]
  conv => lhs; rw [e]
  rw [qc0 _ x A B (fun y hy => h1 y (by rw [e]; simp [hy]) (ha y hy)) (fun y hy => h1 y (by rw [e]; simp [hy]) (hb y hy)), h.one x hx, Int.one_mul]
theorem Rref.coord {p : Int} {w : Nat} {P : List (Nat × List Int)} (h : Rref p w P) {v : Nat → Int} (hv : Sp p w (P.map Prod.snd) v) : ∀ j, j < w → p ∣ v j - cs P v j := by
  induction hv with
  | zero v hz => exact fun j hj => Zn 1 (-1) (hz j hj) (qd6 (P := P) (j := j) fun x hx => Zq (fn x.2 j) (hz x.1 (h.lt x hx)) (Int.mul_comm _ _)) (by omega)
  | add v u r t hr _ h2 ih =>
    intro j hj
    obtain ⟨x, hx, rfl⟩ := List.mem_map.1 hr
    have h3 := qoy h.lt h2 j
    rw [qj6, h.cs_row hx] at h3
    have h4 := h2 j hj
    have h5 := ih j hj
    exact Zn 1 1 (Zn 1 (-1) h4 h3 rfl) h5 (by omega)
theorem Rref.lead {p : Int} {w : Nat} {P : List (Nat × List Int)} (h : Rref p w P) {v : Nat → Int} (hv : Sp p w (P.map Prod.snd) v) {j : Nat} (hj : j < w) (hz : ∀ i, i < j → p ∣ v i) (hn : ¬ p ∣ v j) : ∃ x ∈ P, x.1 = j := by
  by_cases hex : ∃ x ∈ P, x.1 = j
  · exact hex
  · exfalso
    have h1 := h.coord hv j hj
    refine hn (Zn 1 1 h1 (qd6 (P := P) (v := v) (j := j) fun x hx => ?_) (by omega))
    have hne : x.1 ≠ j := fun e => hex ⟨x, hx, e⟩
    by_cases hlt : x.1 < j
    · exact Zq (fn x.2 j) (hz x.1 hlt) (Int.mul_comm _ _)
    · rw [h.low x hx j (by omega), Int.mul_zero]; exact Int.dvd_zero p
theorem qgc {α : Type} {key : α → Nat} : ∀ {P Q : List α}, P.Pairwise (fun x y => key x < key y) → Q.Pairwise (fun x y => key x < key y) → (∀ x, x ∈ P ↔ x ∈ Q) → P = Q
  | [], [], _, _, _ => rfl
  | [], y :: Q, _, _, h => absurd ((h y).2 (by simp)) (by simp)
  | x :: P, [], _, _, h => absurd ((h x).1 (by simp)) (by simp)
  | x :: P, y :: Q, hp, hq, h => by
    rw [List.pairwise_cons] at hp hq
    have e : x = y := by
      rcases List.mem_cons.1 ((h x).1 (by simp)) with e | hx
      · exact e
      · rcases List.mem_cons.1 ((h y).2 (by simp)) with e | hy
        · exact e.symm
        · have := hq.1 x hx; have := hp.1 y hy; omega
    subst e
    rw [qgc hp.2 hq.2 fun z => ?_]
    constructor
    · intro hz
      rcases List.mem_cons.1 ((h z).1 (by simp [hz])) with e | hz'
      · subst e; have := hp.1 z hz; omega
      · exact hz'
    · intro hz
      rcases List.mem_cons.1 ((h z).2 (by simp [hz])) with e | hz'
      · subst e; have := hq.1 z hz; omega
      · exact hz'
theorem qbp {p : Int} (hp : 2 ≤ p) : ¬ p ∣ 1 := fun h => by
  have := Int.le_of_dvd (by omega) h; omega
theorem qjc {p a b : Int} (ha : 0 ≤ a ∧ a < p) (hb : 0 ≤ b ∧ b < p) (h : p ∣ a - b) : a = b := by
  obtain ⟨k, hk⟩ := h
  have : k = 0 := by
    by_cases h1 : 1 ≤ k
    · have := Int.mul_le_mul_of_nonneg_left h1 (show 0 ≤ p by omega); omega
    · by_cases h2 : k ≤ -1
      · have := Int.mul_le_mul_of_nonneg_left h2 (show 0 ≤ p by omega); omega
      · omega
  subst this; omega
theorem Jn {p : Int} {w : Nat} {r : List Int} (h : r.length = w ∧ ∀ x ∈ r, 0 ≤ x ∧ x < p) (j : Nat) (hj : j < w) : 0 ≤ fn r j ∧ fn r j < p := by
  rw [fn, Z6 r j (by omega)]; exact h.2 _ (List.getElem_mem _)
theorem qnn {a b : List Int} {w : Nat} (ha : a.length = w) (hb : b.length = w) (h : ∀ j, j < w → fn a j = fn b j) : a = b := by
  refine List.ext_getElem (by omega) fun j h1 h2 => ?_
  have := h j (by omega)
  rwa [fn, fn, Z6 a j h1, Z6 b j h2] at this
theorem Rref.heads {p : Int} {w : Nat} {P Q : List (Nat × List Int)} (hp : 2 ≤ p) (h : Rref p w P) (k : Rref p w Q) (hs : ∀ x ∈ P, Sp p w (Q.map Prod.snd) (fn x.2)) {x : Nat × List Int} (hx : x ∈ P) : ∃ y ∈ Q, y.1 = x.1 :=
  k.lead (hs x hx) (h.lt x hx) (fun i hi => by rw [h.low x hx i hi]; exact Int.dvd_zero p) (by rw [h.one x hx]; exact qbp hp)
theorem Rref.unique {p : Int} {w : Nat} {P Q : List (Nat × List Int)} (hp : 2 ≤ p) (h : Rref p w P) (k : Rref p w Q) (hs : ∀ x ∈ P, Sp p w (Q.map Prod.snd) (fn x.2)) (ks : ∀ x ∈ Q, Sp p w (P.map Prod.snd) (fn x.2)) : P = Q := by
  have key : ∀ {P Q : List (Nat × List Int)}, Rref p w P → Rref p w Q → (∀ x ∈ P, Sp p w (Q.map Prod.snd) (fn x.2)) → (∀ x ∈ Q, Sp p w (P.map Prod.snd) (fn x.2)) → ∀ x, x ∈ P → x ∈ Q := by
    intro P Q h k hs ks x hx
    obtain ⟨y, hy, e⟩ := h.heads hp k hs hx
    have e2 : x.2 = y.2 := by
      refine qnn (h.ok x hx).1 (k.ok y hy).1 fun j hj => qjc (Jn (h.ok x hx) j hj) (Jn (k.ok y hy) j hj) ?_
      have h1 := k.coord (hs x hx) j hj
      have h2 : cs Q (fn x.2) j = fn y.2 j := by
        obtain ⟨A, B, e3, ha, hb⟩ := qgm k.inc hy
        have h3 : ∀ z, z ∈ Q → z.1 ≠ y.1 → fn x.2 z.1 * fn z.2 j = 0 := fun z hz hn => by
          obtain ⟨x', hx', e4⟩ := k.heads hp h ks hz
          rw [← e4, h.off x hx x' hx' (by rw [e4, ← e]; exact Ne.symm hn), Int.zero_mul]
        rw [cs]
        conv => lhs; rw [e3]
        rw [qc0 _ y A B (fun z hz => h3 z (by rw [e3]; simp [hz]) (ha z hz)) (fun z hz => h3 z (by rw [e3]; simp [hz]) (hb z hz)), e, h.one x hx, Int.one_mul]
      rwa [h2] at h1
    have : x = y := Prod.ext e.symm e2
    rwa [this]
  exact qgc (key := Prod.fst) h.inc k.inc fun x => ⟨key h k hs ks x, key k h ks hs x⟩
theorem Q7 : ∀ {P Q : List (Nat × List Int)}, P.Pairwise (fun x y => x.1 < y.1) → Q.Pairwise (fun x y => x.1 < y.1) → (∀ x ∈ P, ∃ y ∈ Q, y.1 = x.1) → P.length ≤ Q.length
  | [], _, _, _, _ => by simp
  | x :: P, Q, hp, hq, h => by
    obtain ⟨y, hy, e⟩ := h x (by simp)
    obtain ⟨A, B, rfl⟩ := List.append_of_mem hy
    rw [List.pairwise_cons] at hp
    have hq' := hq
    rw [List.pairwise_append, List.pairwise_cons] at hq
    have hq2 : (A ++ B).Pairwise fun x y => x.1 < y.1 := by
      rw [List.pairwise_append]
      exact ⟨hq.1, hq.2.1.2, fun a ha b hb => hq.2.2 a ha b (by simp [hb])⟩
    have := Q7 hp.2 hq2 fun z hz => by
      obtain ⟨u, hu, e2⟩ := h z (by simp [hz])
      have hne : u.1 ≠ y.1 := by have := hp.1 z hz; omega
      refine ⟨u, ?_, e2⟩
      simp only [List.mem_append, List.mem_cons] at hu ⊢
      rcases hu with hu | rfl | hu
      · exact .inl hu
      · exact absurd rfl hne
      · exact .inr hu
    simp at this ⊢
    omega
theorem Rref.len_le {p : Int} {w : Nat} {P Q : List (Nat × List Int)} (hp : 2 ≤ p) (h : Rref p w P) (k : Rref p w Q) (hs : ∀ x ∈ P, Sp p w (Q.map Prod.snd) (fn x.2)) : P.length ≤ Q.length :=
  Q7 h.inc k.inc fun _ hx => h.heads hp k hs hx
end Go.Proofs.Ytmgbpmihbljngaa.PA
namespace Go.Proofs.Ytmgbpmihbljngaa.PA
open Go.RowKit Go.Proofs.YtmgbpmihbljngaaW.PrintWords Go.Proofs.YtmgbpmihbljngaaW.PrintLast Go.Proofs.YtmgbpmihbljngaaW.PrintMore
set_option linter.unusedVariables false
set_option linter.unusedSimpArgs false
theorem J7 (a p : Int) : p ∣ a - a % p := ⟨a / p, by have := Int.mul_ediv_add_emod a p; omega⟩
theorem qol {p t : Int} {h r : List Int} {w : Nat} (hh : h.length = w) (hr : r.length = w) {j : Nat} (hj : j < w) : fn (jm p t h r) j = (fn r j - t * fn h j) % p := qgs j (by omega) (by omega)
theorem qnm {p b : Int} {r : List Int} {w : Nat} (hr : r.length = w) {j : Nat} (hj : j < w) : fn (Qu p b r) j = fn r j * b % p := qil j (by omega)
theorem qnc {α : Type} [Inhabited α] (L : List α) (i : Nat) (d : α) (hi : i < L.length) : L = L.take i ++ L.getD i d :: L.drop (i + 1) ∧ L.eraseIdx i = L.take i ++ L.drop (i + 1) := by
  refine ⟨?_, List.eraseIdx_eq_take_drop_succ L i⟩
  rw [List.getD_eq_getElem?_getD, List.getElem?_eq_getElem hi, Option.getD_some, List.getElem_cons_drop, List.take_append_drop]
theorem ql9 {L : List (List Int)} {i : Nat} (hi : i < L.length) {r : List Int} : r ∈ L ↔ r = L.getD i [] ∨ r ∈ L.eraseIdx i := by
  obtain ⟨h1, h2⟩ := qnc L i [] hi
  rw [h2]
  conv => lhs; rw [h1]
  simp only [List.mem_append, List.mem_cons]
  constructor
  · rintro (h | h | h)
    · exact .inr (.inl h)
    · exact .inl h
    · exact .inr (.inr h)
  · rintro (h | h | h)
    · exact .inr (.inl h)
    · exact .inl h
    · exact .inr (.inr h)
theorem qfg {p : Int} (hp : zk p = true) {w : Nat} : ∀ (d c : Nat) (L : List (List Int)) (P : List (Nat × List Int)), c + d = w → okR p w L → Rref p w P → (∀ x ∈ P, x.1 < c) → qdf c L →
    ∃ Q : List (Nat × List Int), redP p d c L (P.map Prod.snd) = Q.map Prod.snd ∧ J6 p d c L (P.map fun x => (x.1 : Int)) = Q.map (fun x => (x.1 : Int)) ∧ Rref p w Q ∧ (∀ r ∈ L ++ P.map Prod.snd, Sp p w (Q.map Prod.snd) (fn r)) ∧ ∀ x ∈ Q, Sp p w (L ++ P.map Prod.snd) (fn x.2)
  | 0, c, L, P, hw, hL, hP, hlt, hz => by
    refine ⟨P, rfl, rfl, hP, fun r hr => ?_, fun x hx => Sp.mem (by simp; exact .inr ⟨_, hx⟩)⟩
    rcases List.mem_append.1 hr with hr | hr
    · exact .zero _ fun j hj => by rw [fn, hz r hr j (by omega)]; exact Int.dvd_zero p
    · exact Sp.mem hr
  | d + 1, c, L, P, hw, hL, hP, hlt, hz => by
    have hb := zw hp
    rw [redP, J6]
    cases hf : L.findIdx? (fun row => rd row (c : Int) != 0) with
    | none => exact qfg hp d (c + 1) L P (by omega) hL hP (fun x hx => by have := hlt x hx; omega) (qdv hz hf)
    | some i =>
      simp only
      obtain ⟨hi, hne⟩ := qc6 hf
      have hx := hL _ (Q3 hi)
      have hxr := qdy hx c (by omega)
      have hne' : rd (L.getD i []) (c : Int) ≠ 0 := by simpa using hne
      have hinv := (Ze hp hxr.1 hxr.2).2.2.2.1 hne'
      have hs := qcq (p := p) (b := invP p (rd (L.getD i []) (c : Int))) (by omega) hx.1
      have hzn := qdp hp (by omega) hL hz hf
      obtain ⟨x, hxe⟩ : ∃ x, L.getD i [] = x := ⟨_, rfl⟩
      rw [hxe] at hx hxr hne' hinv hs hzn ⊢
      have hxm : x ∈ L := hxe ▸ Q3 hi
      obtain ⟨b, hbe⟩ : ∃ b, invP p (rd x (c : Int)) = b := ⟨_, rfl⟩
      rw [hbe] at hinv hs hzn ⊢
      obtain ⟨h, hhe⟩ : ∃ h, Qu p b x = h := ⟨_, rfl⟩
      have hfh : ∀ j, j < w → fn h j = fn x j * b % p := fun j hj => by rw [← hhe]; exact qnm hx.1 hj
      rw [hhe] at hs hzn ⊢
      have hhc : fn h c = 1 := by rw [hfh c (by omega)]; exact hinv
      have hhl : ∀ j, j < c → fn h j = 0 := fun j hj => by rw [hfh j (by omega), fn, hz x hxm j hj]; simp
      have hfl : ∀ r : List Int, r.length = w → ∀ j, j < w → fn (jm p (rd r (c : Int)) h r) j = (fn r j - fn r c * fn h j) % p := fun r hr j hj => qol hs.1 hr hj
      have hP' : Rref p w (P.map (fun y => (y.1, jm p (rd y.2 (c : Int)) h y.2)) ++ [(c, h)]) := by
        have hm : ∀ z, z ∈ P.map (fun y => (y.1, jm p (rd y.2 (c : Int)) h y.2)) ++ [(c, h)] → (∃ y ∈ P, z = (y.1, jm p (rd y.2 (c : Int)) h y.2)) ∨ z = (c, h) := by
          intro z hz
          rcases List.mem_append.1 hz with hz | hz
          · obtain ⟨y, hy, rfl⟩ := List.mem_map.1 hz; exact .inl ⟨y, hy, rfl⟩
          · exact .inr (by simpa using hz)
        refine ⟨fun z hz => ?_, fun z hz => ?_, fun z hz => ?_, fun z hz j hj => ?_, fun z hz z' hz' hnn => ?_, ?_⟩
        · rcases hm z hz with ⟨y, hy, rfl⟩ | rfl
          · exact hP.lt y hy
          · show c < w; omega
        · rcases hm z hz with ⟨y, hy, rfl⟩ | rfl
          · exact qec (by omega) hs.1 (hP.ok y hy).1
          · exact hs
        · rcases hm z hz with ⟨y, hy, rfl⟩ | rfl
          · have h1 := hlt y hy
            show fn (jm p (rd y.2 (c : Int)) h y.2) y.1 = 1
            rw [hfl _ (hP.ok y hy).1 y.1 (by omega), hP.one y hy, hhl y.1 h1, Int.mul_zero, Int.sub_zero, Int.emod_eq_of_lt (by omega) (by omega)]
          · exact hhc
        · rcases hm z hz with ⟨y, hy, rfl⟩ | rfl
          · have h1 := hlt y hy
            have hj' : j < y.1 := hj
            show fn (jm p (rd y.2 (c : Int)) h y.2) j = 0
            rw [hfl _ (hP.ok y hy).1 j (by omega), hP.low y hy j hj', hhl j (by omega)]; simp
          · exact hhl j hj
        · rcases hm z hz with ⟨y, hy, rfl⟩ | rfl
          · rcases hm z' hz' with ⟨y', hy', rfl⟩ | rfl
            · have h1 := hlt y' hy'
              show fn (jm p (rd y.2 (c : Int)) h y.2) y'.1 = 0
              rw [hfl _ (hP.ok y hy).1 y'.1 (by omega), hP.off y hy y' hy' hnn, hhl y'.1 h1]; simp
            · show fn (jm p (rd y.2 (c : Int)) h y.2) c = 0
              rw [hfl _ (hP.ok y hy).1 c (by omega), hhc]; simp
          · rcases hm z' hz' with ⟨y', hy', rfl⟩ | rfl
            · exact hhl y'.1 (hlt y' hy')
            · exact absurd rfl hnn
        · rw [List.pairwise_append]
          refine ⟨?_, by simp, fun a ha b hb => ?_⟩
          · rw [List.pairwise_map]; exact hP.inc
          · obtain ⟨y, hy, rfl⟩ := List.mem_map.1 ha
            have hbe : b = (c, h) := by simpa using hb
            subst hbe
            exact hlt y hy
      have e1 : (P.map Prod.snd).map (fun r => jm p (rd r (c : Int)) h r) ++ [h] = (P.map (fun y => (y.1, jm p (rd y.2 (c : Int)) h y.2)) ++ [(c, h)]).map Prod.snd := by
        simp [List.map_map, Function.comp_def]
      have e2 : (P.map fun x => (x.1 : Int)) ++ [(c : Int)] = (P.map (fun y => (y.1, jm p (rd y.2 (c : Int)) h y.2)) ++ [(c, h)]).map fun x => (x.1 : Int) := by
        simp [List.map_map, Function.comp_def]
      have ih := qfg hp d (c + 1) ((L.eraseIdx i).map fun r => jm p (rd r (c : Int)) h r) (P.map (fun y => (y.1, jm p (rd y.2 (c : Int)) h y.2)) ++ [(c, h)]) (by omega) (qbh _ (by omega) hs.1 (qbt i hL)) hP' (fun z hz => by
          rcases List.mem_append.1 hz with hz | hz
          · obtain ⟨y, hy, rfl⟩ := List.mem_map.1 hz; have := hlt y hy; show y.1 < c + 1; omega
          · have : z = (c, h) := by simpa using hz
            subst this; show c < c + 1; omega) hzn
      rw [e1, e2]
      obtain ⟨Q, hq1, hq2, hQ, hq3, hq4⟩ := ih
      have hold : ∀ r, r ∈ L ++ P.map Prod.snd → r.length = w := fun r hr => by
        rcases List.mem_append.1 hr with hr | hr
        · exact (hL r hr).1
        · obtain ⟨y, hy, rfl⟩ := List.mem_map.1 hr; exact (hP.ok y hy).1
      have hxs : ∀ j, j < w → p ∣ fn x j - fn x c * fn h j := fun j hj => by
        have h1 := J7 (fn x j * b) p
        rw [← hfh j hj] at h1
        have h2 : p ∣ fn x c * b - 1 := by
          have := J7 (fn x c * b) p
          rw [show fn x c * b % p = 1 from hinv] at this; exact this
        exact Zn (fn x c) (-(fn x j)) h1 h2 (by grind)
      have hnewm : ∀ r, r ∈ L.eraseIdx i ++ P.map Prod.snd → jm p (rd r (c : Int)) h r ∈ ((L.eraseIdx i).map fun r => jm p (rd r (c : Int)) h r) ++ (P.map (fun y => (y.1, jm p (rd y.2 (c : Int)) h y.2)) ++ [(c, h)]).map Prod.snd := fun r hr => by
        rcases List.mem_append.1 hr with hr | hr
        · exact List.mem_append_left _ (List.mem_map_of_mem hr)
        · obtain ⟨y, hy, rfl⟩ := List.mem_map.1 hr
          refine List.mem_append_right _ (List.mem_map.2 ⟨(y.1, jm p (rd y.2 (c : Int)) h y.2), List.mem_append_left _ (List.mem_map.2 ⟨y, hy, rfl⟩), rfl⟩)
      have hhm : h ∈ ((L.eraseIdx i).map fun r => jm p (rd r (c : Int)) h r) ++ (P.map (fun y => (y.1, jm p (rd y.2 (c : Int)) h y.2)) ++ [(c, h)]).map Prod.snd :=
        List.mem_append_right _ (List.mem_map.2 ⟨(c, h), by simp, rfl⟩)
      have hto : ∀ r, r ∈ L ++ P.map Prod.snd → Sp p w (((L.eraseIdx i).map fun r => jm p (rd r (c : Int)) h r) ++ (P.map (fun y => (y.1, jm p (rd y.2 (c : Int)) h y.2)) ++ [(c, h)]).map Prod.snd) (fn r) := fun r hr => by
        have hcase : r = x ∨ r ∈ L.eraseIdx i ++ P.map Prod.snd := by
          rcases List.mem_append.1 hr with hr | hr
          · rcases (ql9 hi).1 hr with h1 | h1
            · exact .inl (h1.trans hxe)
            · exact .inr (List.mem_append_left _ h1)
          · exact .inr (List.mem_append_right _ hr)
        rcases hcase with rfl | hr2
        · exact ((Sp.mem hhm).scale (fn r c)).congr hxs
        · refine ((Sp.mem (hnewm r hr2)).sum ((Sp.mem hhm).scale (fn r c))).congr fun j hj => ?_
          rw [hfl r (hold r hr) j hj]
          exact Zq 1 (J7 (fn r j - fn r c * fn h j) p) (by omega)
      have hfrom_h : Sp p w (L ++ P.map Prod.snd) (fn h) := ((Sp.mem (List.mem_append_left _ hxm)).scale b).congr fun j hj => by
        rw [hfh j hj]
        exact Zq (-1) (J7 (fn x j * b) p) (by rw [Int.mul_comm b]; omega)
      have hfrom : ∀ r, r ∈ ((L.eraseIdx i).map fun r => jm p (rd r (c : Int)) h r) ++ (P.map (fun y => (y.1, jm p (rd y.2 (c : Int)) h y.2)) ++ [(c, h)]).map Prod.snd → Sp p w (L ++ P.map Prod.snd) (fn r) := fun r hr => by
        have hcase : r = h ∨ ∃ q, q ∈ L ++ P.map Prod.snd ∧ r = jm p (rd q (c : Int)) h q := by
          rcases List.mem_append.1 hr with hr | hr
          · obtain ⟨q, hq, rfl⟩ := List.mem_map.1 hr
            exact .inr ⟨q, List.mem_append_left _ (List.mem_of_mem_eraseIdx hq), rfl⟩
          · obtain ⟨z, hz, rfl⟩ := List.mem_map.1 hr
            rcases List.mem_append.1 hz with hz | hz
            · obtain ⟨y, hy, rfl⟩ := List.mem_map.1 hz
              exact .inr ⟨y.2, List.mem_append_right _ (List.mem_map_of_mem hy), rfl⟩
            · have : z = (c, h) := by simpa using hz
              subst this; exact .inl rfl
        rcases hcase with rfl | ⟨q, hq, rfl⟩
        · exact hfrom_h
        · refine ((Sp.mem hq).sum (hfrom_h.scale (-(fn q c)))).congr fun j hj => ?_
          rw [hfl q (hold q hq) j hj]
          exact Zq (-1) (J7 (fn q j - fn q c * fn h j) p) (by grind)
      exact ⟨Q, hq1, hq2, hQ, fun r hr => Sp.sub hq3 (hto r hr), fun z hz => Sp.sub hfrom (hq4 z hz)⟩
theorem qan {p : Int} (hp : zk p = true) {w : Nat} {L : List (List Int)} (hL : okR p w L) :
    ∃ Q : List (Nat × List Int), redP p w 0 L [] = Q.map Prod.snd ∧ J6 p w 0 L [] = Q.map (fun x => (x.1 : Int)) ∧ Rref p w Q ∧ (∀ r ∈ L, Sp p w (Q.map Prod.snd) (fn r)) ∧ ∀ x ∈ Q, Sp p w L (fn x.2) := by
  have h := qfg hp w 0 L [] (by omega) hL ⟨by simp, by simp, by simp, by simp, by simp, by simp⟩ (by simp) (fun r _ j hj => absurd hj (by omega))
  simpa using h
end Go.Proofs.Ytmgbpmihbljngaa.PA
namespace Go.Proofs.Ytmgbpmihbljngaa.PA
open Go.RowKit Go.Proofs.YtmgbpmihbljngaaW.PrintWords Go.Proofs.YtmgbpmihbljngaaW.PrintLast Go.Proofs.YtmgbpmihbljngaaW.PrintMore
set_option linter.unusedVariables false
set_option linter.unusedSimpArgs false
def Js (p : Int) (w : Nat) (L : List (List Int)) : List (Nat × List Int) := ((J6 p w 0 L []).map Int.toNat).zip (redP p w 0 L [])
theorem qia {α β : Type} (f : Nat × List Int → α) (g : Nat × List Int → β) : ∀ Q : List (Nat × List Int), (Q.map f).zip (Q.map g) = Q.map fun x => (f x, g x)
  | [] => rfl
  | x :: Q => by rw [List.map_cons, List.map_cons, List.zip_cons_cons, qia f g Q, List.map_cons]
theorem qab {p : Int} (hp : zk p = true) {w : Nat} {L : List (List Int)} (hL : okR p w L) :
    redP p w 0 L [] = (Js p w L).map Prod.snd ∧ J6 p w 0 L [] = (Js p w L).map (fun x => (x.1 : Int)) ∧ Rref p w (Js p w L) ∧ (∀ r ∈ L, Sp p w ((Js p w L).map Prod.snd) (fn r)) ∧ ∀ x ∈ Js p w L, Sp p w L (fn x.2) := by
  obtain ⟨Q, e1, e2, hQ, h1, h2⟩ := qan hp hL
  have e : Js p w L = Q := by
    rw [Js, e1, e2, List.map_map, qia]
    simp
  rw [e]
  exact ⟨e1, e2, hQ, h1, h2⟩
def Q2 (p : Int) (c : Nat) : List (Nat × List Int) → List Int → List Int
  | [], v => v
  | z :: P, v => Q2 p c P (v.set z.1 ((-(fn z.2 c)) % p))
def Qn (p : Int) (w : Nat) (P : List (Nat × List Int)) (c : Nat) : List Int := Q2 p c P ((List.replicate w 0).set c 1)
def j4 (P : List (Nat × List Int)) (c : Nat) : Bool := !(P.any fun z => z.1 == c)
def Zk (p : Int) (w : Nat) (P : List (Nat × List Int)) : List (List Int) := ((List.range w).filter (j4 P)).map (Qn p w P)
def Qt (p : Int) (w : Nat) (L : List (List Int)) : List (List Int) := redP p w 0 (Zk p w (Js p w L)) []
theorem qc3 (p : Int) (c : Nat) : ∀ (P : List (Nat × List Int)) (v : List Int), (Q2 p c P v).length = v.length
  | [], _ => rfl
  | z :: P, v => by rw [Q2, qc3 p c P, List.length_set]
theorem Z5 (v : List Int) (i j : Nat) (x : Int) (hi : i < v.length) : fn (v.set i x) j = if j = i then x else fn v j := by
  by_cases e : j = i
  · subst e; simp [fn, rd, List.getD_eq_getElem?_getD, hi]
  · rw [if_neg e]; simp [fn, rd, List.getD_eq_getElem?_getD, List.getElem?_set_ne (Ne.symm e)]
theorem qa5 (p : Int) (c : Nat) : ∀ (P : List (Nat × List Int)) (v : List Int) (j : Nat), (∀ z ∈ P, z.1 < v.length) → (∀ z ∈ P, z.1 ≠ j) → fn (Q2 p c P v) j = fn v j
  | [], _, _, _, _ => rfl
  | z :: P, v, j, hl, h => by
    rw [Q2, qa5 p c P _ j (fun y hy => by rw [List.length_set]; exact hl y (by simp [hy])) (fun y hy => h y (by simp [hy])), Z5 v z.1 j _ (hl z (by simp)), if_neg (Ne.symm (h z (by simp)))]
theorem qdu (p : Int) (c : Nat) : ∀ (P : List (Nat × List Int)) (v : List Int) (x : Nat × List Int), (∀ z ∈ P, z.1 < v.length) → P.Pairwise (fun x y => x.1 < y.1) → x ∈ P → fn (Q2 p c P v) x.1 = (-(fn x.2 c)) % p
  | [], _, _, _, _, h => absurd h (by simp)
  | z :: P, v, x, hl, hi, h => by
    rw [List.pairwise_cons] at hi
    have hl2 : ∀ y ∈ P, y.1 < (v.set z.1 ((-(fn z.2 c)) % p)).length := fun y hy => by rw [List.length_set]; exact hl y (by simp [hy])
    rw [Q2]
    rcases List.mem_cons.1 h with rfl | hx
    · rw [qa5 p c P _ x.1 hl2 (fun y hy => Nat.ne_of_gt (hi.1 y hy)), Z5 v x.1 x.1 _ (hl x (by simp)), if_pos rfl]
    · exact qdu p c P _ x hl2 hi.2 hx
theorem qce {p : Int} {w : Nat} {P : List (Nat × List Int)} (h : Rref p w P) (c : Nat) {x : Nat × List Int} (hx : x ∈ P) : fn (Qn p w P c) x.1 = (-(fn x.2 c)) % p :=
  qdu p c P _ x (fun z hz => by simpa using h.lt z hz) h.inc hx
theorem Z8 {p : Int} {w : Nat} {P : List (Nat × List Int)} (h : Rref p w P) {c j : Nat} (hc : c < w) (hj : ∀ z ∈ P, z.1 ≠ j) : fn (Qn p w P c) j = if j = c then 1 else 0 := by
  rw [Qn, qa5 p c P _ j (fun z hz => by simpa using h.lt z hz) hj, Z5 _ c j _ (by simpa using hc)]
  by_cases e : j = c
  · rw [if_pos e, if_pos e]
  · rw [if_neg e, if_neg e]
    by_cases hw : j < w <;> simp [fn, rd, List.getD_eq_getElem?_getD, hw]
theorem qiq (p : Int) (w : Nat) (P : List (Nat × List Int)) (c : Nat) : (Qn p w P c).length = w := by simp [Qn, qc3]
theorem qae {p : Int} (hp : 2 ≤ p) {w : Nat} {P : List (Nat × List Int)} (h : Rref p w P) : okR p w (Zk p w P) := fun r hr => by
  obtain ⟨c, hc, rfl⟩ := List.mem_map.1 hr
  have hcw : c < w := by have := (List.mem_filter.1 hc).1; simpa using this
  refine ⟨qiq p w P c, fun y hy => ?_⟩
  obtain ⟨j, hj, rfl⟩ := List.mem_iff_getElem.1 hy
  have e : (Qn p w P c)[j] = fn (Qn p w P c) j := by rw [fn, Z6 _ j hj]
  rw [e]
  by_cases hex : ∃ x ∈ P, x.1 = j
  · obtain ⟨x, hx, rfl⟩ := hex
    rw [qce h c hx]
    exact ⟨Int.emod_nonneg _ (by omega), Int.emod_lt_of_pos _ (by omega)⟩
  · rw [Z8 h hcw (fun z hz e => hex ⟨z, hz, e⟩)]
    split <;> omega
end Go.Proofs.Ytmgbpmihbljngaa.PA
namespace Go.Proofs.Ytmgbpmihbljngaa.PA
open Go.RowKit Go.Proofs.YtmgbpmihbljngaaW.PrintWords Go.Proofs.YtmgbpmihbljngaaW.PrintLast Go.Proofs.YtmgbpmihbljngaaW.PrintMore
set_option linter.unusedVariables false
set_option linter.unusedSimpArgs false
def dt (w : Nat) (u v : Nat → Int) : Int := ((List.range w).map fun j => u j * v j).sum
theorem qgq {α : Type} (f g : α → Int) (t : Int) : ∀ l : List α, (l.map fun x => f x + t * g x).sum = (l.map f).sum + t * (l.map g).sum
  | [] => by simp
  | x :: l => by
    rw [List.map_cons, List.map_cons, List.map_cons, List.sum_cons, List.sum_cons, List.sum_cons, qgq f g t l, Int.mul_add]; omega
theorem qfh {p : Int} {α : Type} (f g : α → Int) : ∀ l : List α, (∀ x ∈ l, p ∣ f x - g x) → p ∣ (l.map f).sum - (l.map g).sum
  | [], _ => by simp
  | x :: l, h => by
    rw [List.map_cons, List.map_cons, List.sum_cons, List.sum_cons]
    exact Zn 1 1 (h x (by simp)) (qfh f g l fun y hy => h y (by simp [hy])) (by omega)
theorem qob {p : Int} {w : Nat} {u u' v v' : Nat → Int} (hu : ∀ j, j < w → p ∣ u j - u' j) (hv : ∀ j, j < w → p ∣ v j - v' j) : p ∣ dt w u v - dt w u' v' :=
  qfh _ _ _ fun j hj => by
    have hj' : j < w := by simpa using hj
    exact Zn (v j) (u' j) (hu j hj') (hv j hj') (by grind)
theorem qmu {p : Int} {w : Nat} {L : List (List Int)} {v : Nat → Int} (h : ∀ r ∈ L, p ∣ dt w (fn r) v) {u : Nat → Int} (hu : Sp p w L u) : p ∣ dt w u v := by
  induction hu with
  | zero u hz =>
    refine qd8 _ fun y hy => ?_
    obtain ⟨j, hj, rfl⟩ := List.mem_map.1 hy
    exact Int.dvd_mul_of_dvd_left (hz j (by simpa using hj))
  | add u u' r t hr _ h2 ih =>
    have h3 := qob (v := v) (v' := v) h2 (fun j _ => by simp)
    have e : dt w (fun j => u' j + t * fn r j) v = dt w u' v + t * dt w (fn r) v := by
      rw [dt, dt, dt, ← qgq]
      congr 1
      exact List.map_congr_left fun j _ => by grind
    rw [e] at h3
    exact Zn 1 1 h3 (Zn 1 t ih (h r hr) rfl) (by omega)
theorem qih {α : Type} (f : α → Int) (q : α → Bool) : ∀ l : List α, (l.map f).sum = ((l.filter q).map f).sum + ((l.filter fun x => !q x).map f).sum
  | [] => rfl
  | x :: l => by
    have ih := qih f q l
    cases h : q x <;> simp [h, ih] <;> omega
theorem qat {P : List (Nat × List Int)} {c : Nat} (h : j4 P c = true) : ∀ z ∈ P, z.1 ≠ c := fun z hz e => by
  have : P.any (fun z => z.1 == c) = true := List.any_eq_true.2 ⟨z, hz, by simp [e]⟩
  rw [j4, this] at h; simp at h
theorem qcw {P : List (Nat × List Int)} {c : Nat} (h : ¬ ∃ z ∈ P, z.1 = c) : j4 P c = true := by
  rw [j4]
  cases h2 : P.any (fun z => z.1 == c) with
  | false => rfl
  | true =>
    obtain ⟨z, hz, e⟩ := List.any_eq_true.1 h2
    exact absurd ⟨z, hz, by simpa using e⟩ h
theorem qbm {l : List Nat} (hn : l.Nodup) {x : Nat} (hx : x ∈ l) : ∃ A B, l = A ++ x :: B ∧ (∀ y ∈ A, y ≠ x) ∧ ∀ y ∈ B, y ≠ x := by
  obtain ⟨A, B, rfl⟩ := List.append_of_mem hx
  rw [List.nodup_append, List.nodup_cons] at hn
  exact ⟨A, B, rfl, fun y hy e => hn.2.2 y hy x (by simp) e, fun y hy e => hn.2.1.1 (e ▸ hy)⟩
theorem qjy {p : Int} {w : Nat} {P : List (Nat × List Int)} (h : Rref p w P) {x : Nat × List Int} (hx : x ∈ P) (v : Nat → Int) : dt w (fn x.2) v = v x.1 + (((List.range w).filter (j4 P)).map fun c => fn x.2 c * v c).sum := by
  rw [dt, qih _ (j4 P)]
  have hm : x.1 ∈ (List.range w).filter fun c => !j4 P c := by
    rw [List.mem_filter]
    refine ⟨by simpa using h.lt x hx, ?_⟩
    cases hf : j4 P x.1 with
    | false => rfl
    | true => exact absurd rfl (qat hf x hx)
  obtain ⟨A, B, e, ha, hb⟩ := qbm (List.Nodup.sublist List.filter_sublist List.nodup_range) hm
  have hz : ∀ c, c ∈ (List.range w).filter (fun c => !j4 P c) → c ≠ x.1 → fn x.2 c * v c = 0 := fun c hc hne => by
    have hnf : j4 P c = false := by have := (List.mem_filter.1 hc).2; simpa using this
    have hex : ∃ z ∈ P, z.1 = c := by
      by_cases he : ∃ z ∈ P, z.1 = c
      · exact he
      · rw [qcw he] at hnf; simp at hnf
    obtain ⟨z, hz, rfl⟩ := hex
    rw [h.off x hx z hz (Ne.symm hne), Int.zero_mul]
  have h1 := qc0 (fun c => fn x.2 c * v c) x.1 A B (fun y hy => hz y (by rw [e]; simp [hy]) (ha y hy)) (fun y hy => hz y (by rw [e]; simp [hy]) (hb y hy))
  rw [e, h1, h.one x hx]; omega
theorem qjv {p : Int} {w : Nat} {P : List (Nat × List Int)} (h : Rref p w P) {x : Nat × List Int} (hx : x ∈ P) {r : List Int} (hr : r ∈ Zk p w P) : p ∣ dt w (fn x.2) (fn r) := by
  obtain ⟨c, hc, rfl⟩ := List.mem_map.1 hr
  have hcw : c < w := by have := (List.mem_filter.1 hc).1; simpa using this
  rw [qjy h hx, qce h c hx]
  obtain ⟨A, B, e, ha, hb⟩ := qbm (List.Nodup.sublist List.filter_sublist List.nodup_range) hc
  have hz : ∀ j, j ∈ (List.range w).filter (j4 P) → j ≠ c → fn x.2 j * fn (Qn p w P c) j = 0 := fun j hj hne => by
    rw [Z8 h hcw (qat (List.mem_filter.1 hj).2), if_neg hne, Int.mul_zero]
  have h1 := qc0 (fun j => fn x.2 j * fn (Qn p w P c) j) c A B (fun y hy => hz y (by rw [e]; simp [hy]) (ha y hy)) (fun y hy => hz y (by rw [e]; simp [hy]) (hb y hy))
  rw [e, h1, Z8 h hcw (qat (List.mem_filter.1 hc).2), if_pos rfl]
  exact Zq (-1) (J7 (-(fn x.2 c)) p) (by omega)
theorem qf1 {p : Int} {w : Nat} {P : List (Nat × List Int)} (h : Rref p w P) {v : Nat → Int} (hv : ∀ x ∈ P, p ∣ dt w (fn x.2) v) : Sp p w (Zk p w P) v := by
  have hsp : ∀ l : List Nat, (∀ c ∈ l, c ∈ (List.range w).filter (j4 P)) → Sp p w (Zk p w P) fun j => (l.map fun c => v c * fn (Qn p w P c) j).sum := by
    intro l
    induction l with
    | nil => intro _; exact .zero _ fun j _ => by simp
    | cons c l ih =>
      intro hl
      exact .add _ _ (Qn p w P c) (v c) (List.mem_map.2 ⟨c, hl c (by simp), rfl⟩) (ih fun d hd => hl d (by simp [hd])) fun j _ => by
        rw [List.map_cons, List.sum_cons]; exact ⟨0, by omega⟩
  refine (hsp _ fun c hc => hc).congr fun j hj => ?_
  by_cases hex : ∃ x ∈ P, x.1 = j
  · obtain ⟨x, hx, rfl⟩ := hex
    have h1 := hv x hx
    rw [qjy h hx] at h1
    have h2 : p ∣ (((List.range w).filter (j4 P)).map fun c => v c * fn (Qn p w P c) x.1).sum - (((List.range w).filter (j4 P)).map fun c => 0 + (-1) * (fn x.2 c * v c)).sum := by
      refine qfh _ _ _ fun c hc => ?_
      rw [qce h c hx]
      exact Zq (-(v c)) (J7 (-(fn x.2 c)) p) (by grind)
    have e3 : (((List.range w).filter (j4 P)).map fun c => 0 + (-1) * (fn x.2 c * v c)).sum = (-1) * (((List.range w).filter (j4 P)).map fun c => fn x.2 c * v c).sum := by
      have := qgq (fun _ : Nat => (0 : Int)) (fun c => fn x.2 c * v c) (-1) ((List.range w).filter (j4 P))
      rw [this]
      have hz : ∀ l : List Nat, (l.map fun _ => (0 : Int)).sum = 0 := fun l => by induction l with
        | nil => rfl
        | cons a l ih => simpa using ih
      rw [hz]; omega
    rw [e3] at h2
    exact Zn 1 (-1) h1 h2 (by omega)
  · have hjf : j ∈ (List.range w).filter (j4 P) := List.mem_filter.2 ⟨by simpa using hj, qcw hex⟩
    obtain ⟨A, B, e, ha, hb⟩ := qbm (List.Nodup.sublist List.filter_sublist List.nodup_range) hjf
    have hz : ∀ c, c ∈ (List.range w).filter (j4 P) → c ≠ j → v c * fn (Qn p w P c) j = 0 := fun c hc hne => by
      have hcw : c < w := by have := (List.mem_filter.1 hc).1; simpa using this
      rw [Z8 h hcw (fun z hz e => hex ⟨z, hz, e⟩), if_neg (Ne.symm hne), Int.mul_zero]
    have h1 := qc0 (fun c => v c * fn (Qn p w P c) j) j A B (fun y hy => hz y (by rw [e]; simp [hy]) (ha y hy)) (fun y hy => hz y (by rw [e]; simp [hy]) (hb y hy))
    show p ∣ v j - (((List.range w).filter (j4 P)).map fun c => v c * fn (Qn p w P c) j).sum
    rw [e, h1, Z8 h hj (fun z hz e => hex ⟨z, hz, e⟩), if_pos rfl]
    exact ⟨0, by omega⟩
theorem qif {p : Int} {w : Nat} {P : List (Nat × List Int)} (h : Rref p w P) (hl : P.length < w) : ∃ c, c < w ∧ j4 P c = true := by
  by_cases hex : ∃ c, c < w ∧ j4 P c = true
  · exact hex
  · exfalso
    have h1 := Q7 (P := (List.range w).map fun c => (c, ([] : List Int))) (Q := P) (by rw [List.pairwise_map]; exact List.pairwise_lt_range) h.inc (fun x hx => by
      obtain ⟨c, hc, rfl⟩ := List.mem_map.1 hx
      have hcw : c < w := by simpa using hc
      by_cases he : ∃ z ∈ P, z.1 = c
      · exact he
      · exact absurd ⟨c, hcw, qcw he⟩ hex)
    simp at h1
    omega
end Go.Proofs.Ytmgbpmihbljngaa.PA
namespace Go.Proofs.Ytmgbpmihbljngaa.PA
open Go.RowKit Go.Proofs.YtmgbpmihbljngaaW.PrintWords Go.Proofs.YtmgbpmihbljngaaW.PrintLast Go.Proofs.YtmgbpmihbljngaaW.PrintMore
set_option linter.unusedVariables false
set_option linter.unusedSimpArgs false
theorem qlz (P : List (Nat × List Int)) (i : Nat) (hi : i < P.length) : zz (P.map Prod.snd) (i : Int) = (P[i]).2 := by
  simp [zz, List.getD_eq_getElem?_getD, hi]
theorem qgi (P : List (Nat × List Int)) (i : Nat) (hi : i < P.length) : rd (P.map fun x => (x.1 : Int)) (i : Int) = ((P[i]).1 : Int) := by
  simp [rd, List.getD_eq_getElem?_getD, hi]
theorem qek {p : Int} {w : Nat} {P : List (Nat × List Int)} (h : Rref p w P) : P.length ≤ w := by
  have h1 := Q7 (P := P) (Q := (List.range w).map fun c => (c, ([] : List Int))) h.inc (by rw [List.pairwise_map]; exact List.pairwise_lt_range) (fun x hx => ⟨(x.1, []), List.mem_map.2 ⟨x.1, by simpa using h.lt x hx, rfl⟩, rfl⟩)
  simpa using h1
theorem s_neg {p : Int} (hp : zk p = true) {x : Int} (h0 : 0 ≤ x) (h1 : x < p) : jl.f p (wrap64 (-x)) = some ((-x) % p) := by
  have hb := zw hp
  rw [qaq p _ (by omega), Zh ⟨by omega, by omega⟩ (by omega) (by omega)]
theorem qhr {p : Int} (hp : zk p = true) {w : Nat} (hw : w ≤ 1000) {P : List (Nat × List Int)} (h : Rref p w P) {c q : Nat} (hc : c < w) {O : List (List Int)} (hO : O.length ≤ 1000) {R : List (List Int)} : ∀ (d i : Nat) (v V : List Int), i + d = P.length → v.length = w → Q2 p c (P.drop i) v = V →
    Ev (fun k => qm.l0 k p (w : Int) (P.map Prod.snd) (P.map fun x => (x.1 : Int)) (O ++ [V]) (q : Int) ((c + 1 : Nat) : Int)) R →
    Ev (fun k => qm.l1 k p (w : Int) (P.map Prod.snd) (P.map fun x => (x.1 : Int)) O (q : Int) (c : Int) v (i : Int)) R
  | 0, i, v, V, e, hv, hV, hend => by
    rw [List.drop_eq_nil_of_le (by omega), Q2] at hV
    subst hV
    refine Ev.step (fun k => by rw [qm.l1, if_neg (by rw [List.length_map]; omega), if_pos (by omega), wsm (by omega) (by omega)]) ?_
    simpa using hend
  | d + 1, i, v, V, e, hv, hV, hend => by
    have hi : i < P.length := by omega
    have hle := qek h
    have hm := List.getElem_mem hi
    have hlen := (h.ok _ hm).1
    have hlt := h.lt _ hm
    have hr := Jn (h.ok _ hm) c hc
    rw [fn] at hr
    rw [List.drop_eq_getElem_cons hi, Q2] at hV
    refine Ev.step (fun k => by rw [qm.l1, if_pos (by rw [List.length_map]; omega), if_pos (by omega), if_pos (by rw [List.length_map]; omega), if_pos (by omega), qlz P i hi, if_pos (by omega), qgi P i hi, s_neg hp hr.1 hr.2]) ?_
    refine Ev.bind (a := (-(rd (P[i]).2 (c : Int))) % p) (Ev.now _) (Ev.yes (by omega) (Ev.yes (by omega) ?_))
    have ih := qhr hp hw h hc hO d (i + 1) (v.set (P[i]).1 ((-(rd (P[i]).2 (c : Int))) % p)) V (by omega) (by rw [List.length_set]; exact hv) hV hend
    rw [wsm (by omega) (by omega)]
    simpa using ih
theorem qlv {P : List (Nat × List Int)} {c q : Nat} (h1 : ∀ j : Nat, ∀ hj : j < P.length, j < q → (P[j]).1 < c) (h2 : ∀ j : Nat, ∀ hj : j < P.length, q ≤ j → c < (P[j]).1) : j4 P c = true := qcw (by
  rintro ⟨z, hz, e⟩
  obtain ⟨j, hj, rfl⟩ := List.mem_iff_getElem.1 hz
  rcases Nat.lt_or_ge j q with h | h
  · have := h1 j hj h; omega
  · have := h2 j hj h; omega)
theorem qc9 {p : Int} (hp : zk p = true) {w : Nat} (hw : w ≤ 1000) {P : List (Nat × List Int)} (h : Rref p w P) : ∀ (d c q : Nat) (O : List (List Int)), c + d = w → q ≤ P.length → (∀ j : Nat, ∀ hj : j < P.length, j < q → (P[j]).1 < c) → (∀ j : Nat, ∀ hj : j < P.length, q ≤ j → c ≤ (P[j]).1) → O = (((List.range c).filter (j4 P)).map (Qn p w P)) →
    Ev (fun k => qm.l0 k p (w : Int) (P.map Prod.snd) (P.map fun x => (x.1 : Int)) O (q : Int) (c : Int)) (redP p w 0 (Zk p w P) [])
  | 0, c, q, O, e, hq, h1, h2, hO => by
    obtain rfl : c = w := by omega
    have hb := zw hp
    refine Ev.step (fun k => by rw [qm.l0, if_neg (by omega)]) ?_
    have hlen : O.length < 1000000 := by
      rw [hO, List.length_map]
      have := List.length_filter_le (j4 P) (List.range c)
      simp at this; omega
    have hok := qae (p := p) (by omega) h
    subst hO
    exact Ev.bind (qdt hp hw _ hok hlen) (Ev.now _)
  | d + 1, c, q, O, e, hq, h1, h2, hO => by
    have hle := qek h
    have hOl : O.length ≤ 1000 := by
      rw [hO, List.length_map]
      have := List.length_filter_le (j4 P) (List.range c)
      simp at this; omega
    have hsucc : (List.range (c + 1)).filter (j4 P) = (List.range c).filter (j4 P) ++ (if j4 P c = true then [c] else []) := by
      rw [List.range_succ, List.filter_append]
      congr 1
      cases hf : j4 P c <;> simp [hf]
    have hnot : (∀ j : Nat, ∀ hj : j < P.length, q ≤ j → c < (P[j]).1) → Ev (fun k => qm.j1 k p (w : Int) (P.map Prod.snd) (P.map fun x => (x.1 : Int)) O (q : Int) (c : Int) false) (redP p w 0 (Zk p w P) []) := fun h3 => by
      have hf := qlv h1 h3
      refine Ev.step (fun k => by rw [qm.j1, if_neg (by simp)]) ?_
      refine (Ev.yes (by omega) (Ev.yes (by omega) (Ev.bind (a := List.replicate w 0) (by simpa using Ev.now (List.replicate w (0 : Int))) (Ev.yes (by omega) (Ev.yes (by simp; omega) ?_)))))
      have hend := qc9 hp hw h d (c + 1) q (O ++ [Qn p w P c]) (by omega) hq (fun j hj hjq => by have := h1 j hj hjq; omega) (fun j hj hjq => by have := h3 j hj hjq; omega) (by rw [hsucc, hf, hO]; simp)
      have := qhr hp hw h (c := c) (q := q) (by omega) hOl (R := redP p w 0 (Zk p w P) []) P.length 0 ((List.replicate w 0).set c 1) (Qn p w P c) (by omega) (by simp) (by rw [List.drop_zero]; rfl) hend
      simpa using this
    by_cases hql : q < P.length
    · refine Ev.step (fun k => by rw [qm.l0, if_pos (by omega), if_pos (by rw [List.length_map]; omega), if_pos (by omega), qgi P q hql]) ?_
      by_cases hh : (P[q]).1 = c
      · rw [show (((P[q]).1 : Int) == (c : Int)) = true from by simp [hh]]
        have hf : j4 P c = false := by
          cases hf : j4 P c with
          | false => rfl
          | true => exact absurd hh (qat hf _ (List.getElem_mem hql))
        refine Ev.step (fun k => by rw [qm.j1, if_pos rfl]) ?_
        rw [wsm (by omega) (by omega), wsm (by omega) (by omega)]
        refine qc9 hp hw h d (c + 1) (q + 1) O (by omega) (by omega) (fun j hj hjq => ?_) (fun j hj hjq => ?_) (by rw [hsucc, hf, hO]; simp)
        · rcases Nat.lt_succ_iff_lt_or_eq.1 hjq with h3 | h3
          · have := h1 j hj h3; omega
          · subst h3; omega
        · have hlt : q < j := by omega
          have := (List.pairwise_iff_getElem.1 h.inc) q j hql hj hlt
          omega
      · rw [show (((P[q]).1 : Int) == (c : Int)) = false from by simp; omega]
        refine hnot fun j hj hjq => ?_
        have hq2 := h2 q hql (Nat.le_refl _)
        rcases Nat.lt_or_ge q j with h3 | h3
        · have := (List.pairwise_iff_getElem.1 h.inc) q j hql hj h3
          omega
        · obtain rfl : j = q := by omega
          omega
    · refine Ev.step (fun k => by rw [qm.l0, if_pos (by omega), if_neg (by rw [List.length_map]; omega)]) ?_
      exact hnot fun j hj hjq => by omega
theorem qdg {p : Int} (hp : zk p = true) {w : Nat} (hw : w ≤ 1000) (L : List (List Int)) (hl : L.length < 1000000) (hL : okR p w L) : Ev (fun k => qm.f k p L (w : Int)) (Qt p w L) := by
  obtain ⟨e1, e2, hP, _, _⟩ := qab hp hL
  unfold qm.f
  refine Ev.bind (qdt hp hw L hL hl) ?_
  rw [e1, e2]
  have h := qc9 (p := p) hp hw hP w 0 0 [] (by omega) (by omega) (fun j hj hjq => absurd hjq (by omega)) (fun j hj _ => by omega) (by simp)
  simpa [Qt] using h
end Go.Proofs.Ytmgbpmihbljngaa.PA
namespace Go.Proofs.Ytmgbpmihbljngaa.PA
open Go.RowKit Go.Proofs.YtmgbpmihbljngaaW.PrintWords Go.Proofs.YtmgbpmihbljngaaW.PrintLast Go.Proofs.YtmgbpmihbljngaaW.PrintMore
set_option linter.unusedVariables false
set_option linter.unusedSimpArgs false
def sqR (p : Int) (t : Int × Int × Int) : List Int := [t.1 * t.1 % p, t.1 * t.2.1 % p, t.1 * t.2.2 % p, t.2.1 * t.2.1 % p, t.2.1 * t.2.2 % p, t.2.2 * t.2.2 % p]
theorem sqR_ok {p : Int} (hp : zk p = true) (t : Int × Int × Int) : (sqR p t).length = 6 ∧ ∀ x ∈ sqR p t, 0 ≤ x ∧ x < p := by
  have hb := zw hp
  have hm : ∀ y : Int, 0 ≤ y % p ∧ y % p < p := fun y => ⟨Int.emod_nonneg _ (by omega), Int.emod_lt_of_pos _ (by omega)⟩
  refine ⟨rfl, fun x hx => ?_⟩
  simp only [sqR, List.mem_cons, List.not_mem_nil, or_false] at hx
  rcases hx with rfl | rfl | rfl | rfl | rfl | rfl <;> exact hm _
theorem sq_ok {p : Int} (hp : zk p = true) (Q : List (Int × Int × Int)) : okR p 6 (Q.map (sqR p)) := fun r hr => by
  obtain ⟨t, _, rfl⟩ := List.mem_map.1 hr
  exact sqR_ok hp t
theorem qgx {p : Int} (hp : 7 ≤ p ∧ p ≤ 31) (a : Int × Int × Int) (ha : inP p a) : jq.f p a.1 a.2.1 a.2.2 = some (sqR p a) := by
  obtain ⟨a0, a1, a2⟩ := ha
  have m : ∀ {x y : Int}, (0 ≤ x ∧ x < p) → (0 ≤ y ∧ y < p) → Int.tmod (wrap64 (x * y)) p = x * y % p := fun hx hy => by
    have := Qb hp hx hy
    rw [wsm (by omega) (by omega), Int.tmod_eq_emod_of_nonneg this.1]
  unfold jq.f
  rw [if_neg (by omega), m a0 a0, m a0 a1, m a0 a2, m a1 a1, m a1 a2, m a2 a2]
  rfl
theorem qij {p : Int} (hp : zk p = true) (l : List S43) (hl : l.length ≤ 1000) (hin : ∀ j, j < l.length → inP p ((tps l).getD j (0, 0, 0))) : Ev (fun k => zq.f k p l) (Qt p 6 ((tps l).map (sqR p))) := by
  have hb := zw hp
  have hlen : (tps l).length = l.length := by simp [tps]
  have h0 : ∀ (d i : Nat) (acc : List (List Int)), i + d = l.length → acc = ((tps l).take i).map (sqR p) → Ev (fun q => zq.l0 q p l acc (i : Int)) (Qt p 6 ((tps l).map (sqR p))) := by
    intro d
    induction d with
    | zero =>
      intro i acc hi ha
      refine Ev.step (fun q => by rw [zq.l0, if_neg (by omega)]) ?_
      rw [List.take_of_length_le (by omega)] at ha
      subst ha
      have := qdg hp (w := 6) (by omega) _ (by rw [List.length_map]; omega) (sq_ok hp (tps l))
      exact Ev.bind this (Ev.now _)
    | succ d ih =>
      intro i acc hi ha
      have hil : i < l.length := by omega
      have e : jq.f p (qd l (i : Int)).f0.f0 (qd l (i : Int)).f0.f1 (qd l (i : Int)).f0.f2 = some (sqR p ((tps l).getD i (0, 0, 0))) := by
        have := qgx (p := p) ⟨by omega, by omega⟩ _ (hin i hil)
        rw [← qbq l i hil] at this ⊢
        exact this
      have hal : acc.length ≤ 1000 := by rw [ha, List.length_map, List.length_take]; omega
      refine Ev.step (fun q => by rw [zq.l0, if_pos (by omega), if_pos (by omega), e, Option.bind_some, if_pos (by omega), wsm (by omega) (by omega)]) ?_
      refine ih (i + 1) _ (by omega) ?_
      rw [ha, List.take_add_one, List.map_append, List.getD_eq_getElem?_getD, List.getElem?_eq_getElem (by omega)]
      rfl
  unfold zq.f
  exact h0 l.length 0 [] (by omega) (by simp)
def genB (p : Int) (Q : List (Int × Int × Int)) : Bool := decide (Q.length = 6) && Jt p Q && (Qt p 6 (Q.map (sqR p))).isEmpty
theorem Qz {p : Int} {Q : List (Int × Int × Int)} (h : genB p Q = true) : zk p = true ∧ Q.length = 6 ∧ Jt p Q = true ∧ Qt p 6 (Q.map (sqR p)) = [] := by
  rw [genB, Bool.and_eq_true, Bool.and_eq_true, decide_eq_true_iff] at h
  obtain ⟨⟨h1, h2⟩, h3⟩ := h
  refine ⟨?_, h1, h2, by simpa using h3⟩
  cases hp : zk p with
  | true => rfl
  | false => rw [qda hp Q (by omega)] at h2; exact absurd h2 (by simp)
theorem Z0 (p : Int) (l : List S43) : Ev (fun k => zf.f k p l) (genB p (tps l)) := by
  have hlen : (tps l).length = l.length := by simp [tps]
  unfold zf.f
  by_cases h6 : l.length = 6
  · refine Ev.yes (by omega) ?_
    rw [genB, hlen, decide_eq_true h6, Bool.true_and]
    cases hp : zk p with
    | false =>
      rw [qda hp _ (by omega)]
      exact Ev.bind (qgu hp l (by omega)) (Ev.no (by simp) (Ev.now _))
    | true =>
      refine Ev.bind (qj4 hp l (by omega)) ?_
      cases ha : Jt p (tps l) with
      | false => exact Ev.no (by simp) (Ev.now _)
      | true =>
        refine Ev.yes rfl (Ev.bind (qij hp l (by omega) fun j hj => Jw ((Zl ha).1 j (by omega))) ?_)
        have e : ((((Qt p 6 ((tps l).map (sqR p))).length : Int)) == 0) = (true && (Qt p 6 ((tps l).map (sqR p))).isEmpty) := by
          cases Qt p 6 ((tps l).map (sqR p)) with
          | nil => rfl
          | cons a t => simp; omega
        rw [e]
        exact Ev.now _
  · refine Ev.no (by omega) ?_
    rw [genB, hlen, decide_eq_false h6]
    exact Ev.now _
end Go.Proofs.Ytmgbpmihbljngaa.PA
namespace Go.Proofs.Ytmgbpmihbljngaa.PA
open Go.RowKit Go.Proofs.YtmgbpmihbljngaaW.PrintWords Go.Proofs.YtmgbpmihbljngaaW.PrintLast Go.Proofs.YtmgbpmihbljngaaW.PrintMore
set_option linter.unusedVariables false
set_option linter.unusedSimpArgs false
theorem qiw (b : List Int) (hb : qac b) (p : Int) (hp : 5 ≤ p ∧ p ≤ 31) (o : List S43) (ho : o.length = 4) : ∀ (d i : Nat) (s : Int), i + d = 12 → 0 ≤ s → s + 4 * d ≤ 800000 → ∃ q l s', Ev (fun k => zn.l0 k p o (i : Int) b s) (q, l, s') ∧ q = p ∧ l.length = 6 ∧ s ≤ s' ∧ s' ≤ s + 4 * d + 20
  | 0, i, s, hi, h0, h1 => by
    obtain ⟨x, y, z, s1, e1, g1, g2⟩ := qbg b hb p s (by omega) h0 (by omega)
    obtain ⟨x2, y2, z2, s2, e2, g3, g4⟩ := qbg b hb p s1 (by omega) (by omega) (by omega)
    refine ⟨p, o ++ [⟨⟨x, y, z⟩⟩, ⟨⟨x2, y2, z2⟩⟩], s2, Ev.step (fun k => by rw [zn.l0, if_neg (by omega)]) (Ev.bind e1 (Ev.bind e2 (Ev.bind (Ev.now _) ?_))), rfl, by simp [ho], by omega, by omega⟩
    exact Ev.yes (by simp [ho]) (Ev.now _)
  | d + 1, i, s, hi, h0, h1 => by
    have hw : wrap64 (p - 2) = p - 2 := wsm (by omega) (by omega)
    obtain ⟨a1, k1, _, _⟩ := Q6 b hb s (p - 2) h0 (by omega)
    obtain ⟨a2, k2, _, _⟩ := Q6 b hb (s + 1) (p - 2) (by omega) (by omega)
    obtain ⟨a3, k3, _, _⟩ := Q6 b hb (s + 1 + 1) (p - 2) (by omega) (by omega)
    obtain ⟨a4, k4, _, _⟩ := Q6 b hb (s + 1 + 1 + 1) (p - 2) (by omega) (by omega)
    obtain ⟨l, hl⟩ : ∃ l : List S43, l = ([] ++ o) ++ [⟨⟨1, wrap64 (2 + a1), wrap64 (2 + a2)⟩⟩, ⟨⟨1, wrap64 (2 + a3), wrap64 (2 + a4)⟩⟩] := ⟨_, rfl⟩
    cases hg : genB p (tps l) with
    | true =>
      refine ⟨p, l, s + 1 + 1 + 1 + 1, Ev.step (fun k => by rw [zn.l0, if_pos (by omega), hw]) (Ev.bind k1 (Ev.bind k2 (Ev.bind k3 (Ev.bind k4 (Ev.bind (Ev.now _) ?_))))), rfl, by rw [hl]; simp [ho], by omega, by omega⟩
      refine Ev.yes (by simp [ho]) (Ev.bind (Ev.now _) (Ev.bind (Ev.now _) ?_))
      refine Ev.yes (by simp [ho]) (Ev.bind (Ev.now _) (Ev.bind (Z0 p _) ?_))
      rw [← hl, hg]
      exact Ev.yes rfl (Ev.now _)
    | false =>
      obtain ⟨q, m, s', he, hq, hm, g1, g2⟩ := qiw b hb p hp o ho d (i + 1) (s + 1 + 1 + 1 + 1) (by omega) (by omega) (by omega)
      refine ⟨q, m, s', Ev.step (fun k => by rw [zn.l0, if_pos (by omega), hw]) (Ev.bind k1 (Ev.bind k2 (Ev.bind k3 (Ev.bind k4 (Ev.bind (Ev.now _) ?_))))), hq, hm, by omega, by omega⟩
      refine Ev.yes (by simp [ho]) (Ev.bind (Ev.now _) (Ev.bind (Ev.now _) ?_))
      refine Ev.yes (by simp [ho]) (Ev.bind (Ev.now _) (Ev.bind (Z0 p _) ?_))
      rw [← hl, hg]
      refine Ev.no (by simp) ?_
      rw [wsm (by omega) (by omega)]
      exact he
theorem qlh (b : List Int) (hb : qac b) (s : Int) (h0 : 0 ≤ s) (h1 : s ≤ 700000) : ∃ p l s', Ev (fun k => zn.f k b s) (p, l, s') ∧ l.length = 6 ∧ s ≤ s' ∧ s' ≤ s + 100 ∧ 5 ≤ p ∧ p ≤ 31 := by
  obtain ⟨v, hv, hc⟩ := qik b hb s h0 (by omega)
  obtain ⟨q, m, s', he, hq, hm, g1, g2⟩ := qiw b hb v (by omega) [⟨⟨1, 0, 0⟩⟩, ⟨⟨0, 1, 0⟩⟩, ⟨⟨0, 0, 1⟩⟩, ⟨⟨1, 1, 1⟩⟩] rfl 12 0 (s + 1) (by omega) (by omega) (by omega)
  unfold zn.f
  exact ⟨q, m, s', Ev.bind hv he, hm, by omega, by omega, by omega, by omega⟩
end Go.Proofs.Ytmgbpmihbljngaa.PA
namespace Go.Proofs.Ytmgbpmihbljngaa.PA
open Go.RowKit Go.Proofs.YtmgbpmihbljngaaW.PrintWords Go.Proofs.YtmgbpmihbljngaaW.PrintLast Go.Proofs.YtmgbpmihbljngaaW.PrintMore
set_option linter.unusedVariables false
set_option linter.unusedSimpArgs false
def dotP (p : Int) (a b : List Int) : Int := dt 10 (fn a) (fn b) % p
theorem qoi (w : Nat) (u v : Nat → Int) : dt (w + 1) u v = dt w u v + u w * v w := by simp [dt, List.range_succ]
theorem dt_nil (u v : Nat → Int) : dt 0 u v = 0 := rfl
theorem qml {p : Int} (hp : zk p = true) (a b : List Int) (ha : a.length = 10 ∧ ∀ x ∈ a, 0 ≤ x ∧ x < p) (hb : b.length = 10 ∧ ∀ x ∈ b, 0 ≤ x ∧ x < p) : Ev (fun k => ji.f k p a b) (dotP p a b) := by
  have h0 := zw hp
  have la := ha.1
  have lb := hb.1
  have hl : ∀ (d i : Nat), i + d = 10 → Ev (fun k => ji.l0 k p a b (dt i (fn a) (fn b) % p) (i : Int)) (dotP p a b) := by
    intro d
    induction d with
    | zero =>
      intro i hi
      obtain rfl : i = 10 := by omega
      exact Ev.step (f := fun _ => some (dotP p a b)) (fun q => by rw [ji.l0, if_neg (by omega)]; rfl) (Ev.now _)
    | succ d ih =>
      intro i hi
      have b1 := Jn ha i (by omega)
      have b2 := Jn hb i (by omega)
      have b3 := Qb (p := p) ⟨by omega, by omega⟩ b1 b2
      have b4 := Int.emod_nonneg (dt i (fn a) (fn b)) (show p ≠ 0 by omega)
      have b5 := Int.emod_lt_of_pos (dt i (fn a) (fn b)) (show (0 : Int) < p by omega)
      have r1 : rd a (i : Int) = fn a i := rfl
      have r2 : rd b (i : Int) = fn b i := rfl
      refine Ev.step (fun q => by rw [ji.l0, if_pos (by omega), if_pos (by omega), if_pos (by omega), if_neg (by omega), r1, r2, wsm (i := fn a i * fn b i) (by omega) (by omega), wsm (i := _ + _) (by omega) (by omega), Int.tmod_eq_emod_of_nonneg (by omega), Int.emod_add_emod, ← qoi, wsm (by omega) (by omega)]) ?_
      exact ih (i + 1) (by omega)
  unfold ji.f
  have := hl 10 0 rfl
  rwa [dt_nil, Int.zero_emod] at this
end Go.Proofs.Ytmgbpmihbljngaa.PA
namespace Go.Proofs.Ytmgbpmihbljngaa.PA
open Go.RowKit Go.Proofs.YtmgbpmihbljngaaW.PrintWords Go.Proofs.YtmgbpmihbljngaaW.PrintLast Go.Proofs.YtmgbpmihbljngaaW.PrintMore
set_option linter.unusedVariables false
set_option linter.unusedSimpArgs false
abbrev Fq (n : Nat) := Fin (n + 1)
def sm {n : Nat} : Nat → (Nat → Fq n) → Fq n
  | 0, _ => 0
  | m + 1, f => sm m f + f m
theorem Qr {n : Nat} {f g : Nat → Fq n} : ∀ (m : Nat), (∀ i, i < m → f i = g i) → sm m f = sm m g
  | 0, _ => rfl
  | m + 1, h => by rw [sm, sm, Qr m (fun i hi => h i (by omega)), h m (by omega)]
theorem qhc {n : Nat} (f g : Nat → Fq n) : ∀ m, sm m (fun i => f i + g i) = sm m f + sm m g
  | 0 => by simp [sm]
  | m + 1 => by rw [sm, sm, sm, qhc f g m]; grind
theorem qe6 {n : Nat} (c : Fq n) (f : Nat → Fq n) : ∀ m, sm m (fun i => c * f i) = c * sm m f
  | 0 => by rw [sm, sm]; grind
  | m + 1 => by rw [sm, sm, qe6 c f m]; grind
theorem qa2 {n : Nat} {f : Nat → Fq n} : ∀ m, (∀ i, i < m → f i = 0) → sm m f = 0
  | 0, _ => rfl
  | m + 1, h => by rw [sm, qa2 m (fun i hi => h i (by omega)), h m (by omega)]; grind
theorem Jo {n : Nat} (f : Nat → Fq n) (a : Nat) : ∀ b, sm (a + b) f = sm a f + sm b (fun i => f (a + i))
  | 0 => by simp [sm]
  | b + 1 => by rw [← Nat.add_assoc, sm, sm, Jo f a b]; grind
theorem qnu {n : Nat} (f : Nat → Fq n) (m : Nat) : sm (m + 1) f = f 0 + sm m (fun i => f (i + 1)) := by
  rw [Nat.add_comm, Jo f 1 m]
  simp only [sm, Nat.add_comm 1]
  grind
theorem qm7 {n : Nat} : ∀ (m : Nat) (f : Nat → Fq n), sm m f = sm m (fun i => f (m - 1 - i))
  | 0, _ => rfl
  | m + 1, f => by
    rw [qnu (fun i => f (m + 1 - 1 - i)) m, sm, qm7 m f]
    have : sm m (fun i => f (m - 1 - i)) = sm m (fun i => f (m + 1 - 1 - (i + 1))) := Qr m fun i hi => by congr 1; omega
    rw [this]
    simp only [Nat.add_sub_cancel, Nat.sub_zero]
    grind
theorem qmn {n : Nat} (a : Nat → Nat → Fq n) : ∀ m, sm m (fun i => sm (i + 1) (fun j => a j (i - j))) = sm m (fun j => sm (m - j) (fun k => a j k))
  | 0 => rfl
  | m + 1 => by
    have e0 : sm (m + 1) (fun i => sm (i + 1) (fun j => a j (i - j))) = sm m (fun i => sm (i + 1) (fun j => a j (i - j))) + sm (m + 1) (fun j => a j (m - j)) := rfl
    have e1 : sm (m + 1) (fun j => sm (m + 1 - j) (fun k => a j k)) = sm m (fun j => sm (m + 1 - j) (fun k => a j k)) + sm (m + 1 - m) (fun k => a m k) := rfl
    have e2 : sm (m + 1) (fun j => a j (m - j)) = sm m (fun j => a j (m - j)) + a m (m - m) := rfl
    rw [e0, e1, e2, qmn a m]
    have e : sm m (fun j => sm (m + 1 - j) (fun k => a j k)) = sm m (fun j => sm (m - j) (fun k => a j k)) + sm m (fun j => a j (m - j)) := by
      rw [← qhc]
      refine Qr m fun i hi => ?_
      rw [show m + 1 - i = (m - i) + 1 by omega, sm]
    rw [e, show m + 1 - m = 0 + 1 by omega, sm, sm, Nat.sub_self]
    grind
def mulP {n : Nat} (f g : Nat → Fq n) (r : Nat) : Fq n := sm (r + 1) fun i => f i * g (r - i)
theorem Zd {n : Nat} (f g : Nat → Fq n) : mulP f g = mulP g f := by
  funext r
  rw [mulP, qm7, mulP]
  refine Qr _ fun i hi => ?_
  rw [show r - (r + 1 - 1 - i) = i by omega, show r + 1 - 1 - i = r - i by omega]
  grind
theorem qaz {n : Nat} (f g h : Nat → Fq n) : mulP (mulP f g) h = mulP f (mulP g h) := by
  funext r
  have e1 : mulP (mulP f g) h r = sm (r + 1) (fun i => sm (i + 1) (fun j => f j * g (i - j) * h (r - j - (i - j)))) := by
    unfold mulP
    refine Qr _ fun i hi => ?_
    rw [show sm (i + 1) (fun i_1 => f i_1 * g (i - i_1)) * h (r - i) = h (r - i) * sm (i + 1) (fun i_1 => f i_1 * g (i - i_1)) by grind, ← qe6]
    refine Qr _ fun j hj => ?_
    rw [show r - j - (i - j) = r - i by omega]
    grind
  rw [e1, qmn (fun j k => f j * g k * h (r - j - k)), mulP]
  refine Qr _ fun j hj => ?_
  rw [mulP, ← qe6, show r + 1 - j = r - j + 1 by omega]
  refine Qr _ fun k hk => ?_
  grind
instance mulP_c {n : Nat} : Std.Commutative (α := Nat → Fq n) mulP := ⟨Zd⟩
instance mulP_a {n : Nat} : Std.Associative (α := Nat → Fq n) mulP := ⟨qaz⟩
def addP {n : Nat} (f g : Nat → Fq n) (r : Nat) : Fq n := f r + g r
def qdz {n : Nat} (c : Fq n) (f : Nat → Fq n) (r : Nat) : Fq n := c * f r
theorem qmp {n : Nat} (f g h : Nat → Fq n) : mulP f (addP g h) = addP (mulP f g) (mulP f h) := by
  funext r
  show sm (r + 1) _ = sm (r + 1) _ + sm (r + 1) _
  rw [← qhc]
  exact Qr _ fun i _ => by show f i * (g (r - i) + h (r - i)) = _; grind
theorem qlr {n : Nat} (c : Fq n) (f g : Nat → Fq n) : mulP f (qdz c g) = qdz c (mulP f g) := by
  funext r
  show sm (r + 1) _ = c * sm (r + 1) _
  rw [← qe6]
  exact Qr _ fun i _ => by show f i * (c * g (r - i)) = _; grind
theorem qe7 {n : Nat} (f g h : Nat → Fq n) : mulP (addP g h) f = addP (mulP g f) (mulP h f) := by rw [Zd, qmp, Zd f, Zd f]
theorem qb1 {n : Nat} (c : Fq n) (f g : Nat → Fq n) : mulP (qdz c g) f = qdz c (mulP g f) := by rw [Zd, qlr, Zd f]
def tris : List (Nat × Nat × Nat) := [(0,0,0),(0,0,1),(0,0,2),(0,0,3),(0,1,1),(0,1,2),(0,1,3),(0,2,2),(0,2,3),(0,3,3),(1,1,1),(1,1,2),(1,1,3),(1,2,2),(1,2,3),(1,3,3),(2,2,2),(2,2,3),(2,3,3),(3,3,3)]
def tI (c : Nat) : Nat := (tris.getD c (0,0,0)).1
def tJ (c : Nat) : Nat := (tris.getD c (0,0,0)).2.1
def tK (c : Nat) : Nat := (tris.getD c (0,0,0)).2.2
def J9 {n : Nat} (l m q : Nat → Fq n) (i j k : Nat) : Fq n :=
  if i = j then if j = k then l i * m i * q i else l i * m i * q k + l i * m k * q i + l k * m i * q i
  else if j = k then l i * m j * q j + l j * m i * q j + l j * m j * q i
  else l i * m j * q k + l i * m k * q j + l j * m i * q k + l j * m k * q i + l k * m i * q j + l k * m j * q i
def cubC {n : Nat} (l m q : Nat → Fq n) (c : Nat) : Fq n := J9 l m q (tI c) (tJ c) (tK c)
def lin4 {n : Nat} (l y : Nat → Fq n) : Fq n := l 0 * y 0 + l 1 * y 1 + l 2 * y 2 + l 3 * y 3
theorem qk1 {n : Nat} (l m q : Nat → Fq n) (t : Nat → Nat → Nat → Fq n) (s1 : ∀ i j k, t i j k = t j i k) (s2 : ∀ i j k, t i j k = t i k j) :
    sm 20 (fun c => cubC l m q c * t (tI c) (tJ c) (tK c)) = lin4 l fun i => lin4 m fun j => lin4 q fun k => t i j k := by
  simp only [sm, cubC, J9, tI, tJ, tK, tris, lin4, List.getD_cons_zero, List.getD_cons_succ, s1 1 0, s1 2 0, s1 3 0, s1 2 1, s1 3 1, s1 3 2, fun i => s2 i 1 0, fun i => s2 i 2 0, fun i => s2 i 3 0, fun i => s2 i 2 1, fun i => s2 i 3 1, fun i => s2 i 3 2]
  clear s1 s2
  simp only [if_false, if_true, Nat.reduceEqDiff, Nat.zero_ne_one, Nat.succ_ne_zero, Nat.reduceAdd]
  grind
theorem qcs {n : Nat} (l : Nat → Fq n) (B : Nat → Nat → Fq n) (g : Nat → Fq n) (r : Nat) : mulP (fun r => lin4 l fun i => B i r) g r = lin4 l fun i => mulP (B i) g r := by
  have e : (fun r => lin4 l fun i => B i r) = addP (addP (addP (qdz (l 0) (B 0)) (qdz (l 1) (B 1))) (qdz (l 2) (B 2))) (qdz (l 3) (B 3)) := rfl
  rw [e, qe7, qe7, qe7, qb1, qb1, qb1, qb1]
  rfl
theorem qgo {n : Nat} (l : Nat → Fq n) (B : Nat → Nat → Fq n) (g : Nat → Fq n) (r : Nat) : mulP g (fun r => lin4 l fun i => B i r) r = lin4 l fun i => mulP g (B i) r := by
  rw [Zd, qcs]
  simp only [lin4, Zd g]
def proT {n : Nat} (B : Nat → Nat → Fq n) (c : Nat) : Nat → Fq n := mulP (mulP (B (tI c)) (B (tJ c))) (B (tK c))
theorem qhz {n : Nat} (l m q : Nat → Fq n) (B : Nat → Nat → Fq n) (r : Nat) : sm 20 (fun c => cubC l m q c * proT B c r) = mulP (mulP (fun r => lin4 l fun i => B i r) (fun r => lin4 m fun i => B i r)) (fun r => lin4 q fun i => B i r) r := by
  have h := qk1 l m q (fun i j k => mulP (mulP (B i) (B j)) (B k) r) (fun i j k => by rw [Zd (B i)]) (fun i j k => by rw [qaz, Zd (B j), ← qaz])
  unfold proT
  rw [h, qgo]
  have e : mulP (fun r => lin4 l fun i => B i r) (fun r => lin4 m fun i => B i r) = fun r => lin4 l fun i => lin4 m fun j => mulP (B i) (B j) r := by
    funext r
    rw [qcs]
    simp only [qgo]
  rw [e]
  simp only [qcs l (fun i r => lin4 m fun j => mulP (B i) (B j) r), qcs m]
  simp only [lin4]
  grind
theorem qkj {n : Nat} (l m q y : Nat → Fq n) : sm 20 (fun c => cubC l m q c * (y (tI c) * y (tJ c) * y (tK c))) = lin4 l y * lin4 m y * lin4 q y := by
  rw [qk1 l m q (fun i j k => y i * y j * y k) (fun i j k => by grind) (fun i j k => by grind)]
  simp only [lin4]
  grind
def FldH (n : Nat) : Prop := ∀ a : Fq n, a ≠ 0 → ∃ b : Fq n, a * b = 1
theorem fz {n : Nat} (hF : FldH n) {a b : Fq n} (h : a * b = 0) : a = 0 ∨ b = 0 := by
  by_cases ha : a = 0
  · exact .inl ha
  · obtain ⟨c, hc⟩ := hF a ha
    right
    grind
theorem fnz {n : Nat} (hF : FldH n) {a b : Fq n} (ha : a ≠ 0) (hb : b ≠ 0) : a * b ≠ 0 := fun h => (fz hF h).elim ha hb
def ev3 {n : Nat} (a P : Nat → Fq n) : Fq n := a 0 * P 0 + a 1 * P 1 + a 2 * P 2
def Q0 {n : Nat} (P Q : Nat → Fq n) : Nat → Fq n
  | 0 => P 1 * Q 2 - P 2 * Q 1
  | 1 => P 2 * Q 0 - P 0 * Q 2
  | 2 => P 0 * Q 1 - P 1 * Q 0
  | _ => 0
def valC {n : Nat} (v P : Nat → Fq n) : Fq n := v 0 * (P 0 * P 0 * P 0) + v 1 * (P 0 * P 0 * P 1) + v 2 * (P 0 * P 0 * P 2) + v 3 * (P 0 * P 1 * P 1) + v 4 * (P 0 * P 1 * P 2) + v 5 * (P 0 * P 2 * P 2) + v 6 * (P 1 * P 1 * P 1) + v 7 * (P 1 * P 1 * P 2) + v 8 * (P 1 * P 2 * P 2) + v 9 * (P 2 * P 2 * P 2)
def cub3 {n : Nat} (a b c : Nat → Fq n) : Nat → Fq n
  | 0 => J9 a b c 0 0 0
  | 1 => J9 a b c 0 0 1
  | 2 => J9 a b c 0 0 2
  | 3 => J9 a b c 0 1 1
  | 4 => J9 a b c 0 1 2
  | 5 => J9 a b c 0 2 2
  | 6 => J9 a b c 1 1 1
  | 7 => J9 a b c 1 1 2
  | 8 => J9 a b c 1 2 2
  | 9 => J9 a b c 2 2 2
  | _ => 0
theorem qmt {n : Nat} (a b c P : Nat → Fq n) : valC (cub3 a b c) P = ev3 a P * ev3 b P * ev3 c P := by
  simp only [valC, cub3, J9, ev3, if_true, if_false, Nat.zero_ne_one, Nat.reduceEqDiff]
  grind
def sprd {n : Nat} (v : Nat → Fq n) : Nat → Fq n
  | 30 => v 0
  | 21 => v 1
  | 20 => v 2
  | 12 => v 3
  | 11 => v 4
  | 10 => v 5
  | 3 => v 6
  | 2 => v 7
  | 1 => v 8
  | 0 => v 9
  | _ => 0
def linP {n : Nat} (a : Nat → Fq n) : Nat → Fq n
  | 10 => a 0
  | 1 => a 1
  | 0 => a 2
  | _ => 0
theorem qo1 {n : Nat} {f : Nat → Fq n} {a : Nat} (h : ∀ i, a ≤ i → f i = 0) (b : Nat) (hb : a ≤ b) : sm b f = sm a f := by
  obtain ⟨c, rfl⟩ := Nat.exists_eq_add_of_le hb
  rw [Jo, qa2 (f := fun i => f (a + i)) c fun i _ => h _ (by omega)]
  grind
theorem qic {n : Nat} (a : Nat → Fq n) : ∀ r, 11 ≤ r → linP a r = 0
  | _ + 11, _ => rfl
theorem qed {n : Nat} (a g : Nat → Fq n) (r : Nat) : mulP (linP a) g r = a 2 * g r + (if 1 ≤ r then a 1 * g (r - 1) else 0) + (if 10 ≤ r then a 0 * g (r - 10) else 0) := by
  unfold mulP
  by_cases h : 10 ≤ r
  · rw [qo1 (a := 11) (fun i hi => by rw [qic a i hi]; grind) (r + 1) (by omega), if_pos h, if_pos (by omega)]
    simp only [sm, linP, Nat.sub_zero]
    grind
  · rw [if_neg h]
    by_cases h1 : 1 ≤ r
    · rw [if_pos h1]
      obtain ⟨q, rfl⟩ := Nat.exists_eq_add_of_le h1
      rw [show 1 + q + 1 = 2 + q by omega, Jo, qa2 (m := q)]
      · simp only [sm, linP, Nat.sub_zero]
        grind
      · intro i hi
        have : linP a (2 + i) = 0 := by
          have : 2 + i < 10 := by omega
          rcases (show i = 0 ∨ i = 1 ∨ i = 2 ∨ i = 3 ∨ i = 4 ∨ i = 5 ∨ i = 6 ∨ i = 7 by omega) with rfl | rfl | rfl | rfl | rfl | rfl | rfl | rfl <;> rfl
        rw [this]; grind
    · rw [if_neg h1]
      obtain rfl : r = 0 := by omega
      simp only [sm, linP, Nat.sub_zero]
      grind
theorem qlx {n : Nat} (a b c : Nat → Fq n) : sprd (cub3 a b c) = mulP (mulP (linP a) (linP b)) (linP c) := by
  funext r
  rw [qaz, qed, qed, qed, qed]
  match r with
  | 0 | 1 | 2 | 3 | 4 | 5 | 6 | 7 | 8 | 9 | 10 | 11 | 12 | 13 | 14 | 15 | 16 | 17 | 18 | 19 | 20 | 21 | 22 | 23 | 24 | 25 | 26 | 27 | 28 | 29 | 30 =>
    simp [sprd, cub3, J9, linP]
    try grind
  | r + 31 =>
    have h : ∀ k, 11 ≤ k → linP c k = 0 := qic c
    rw [h, h, h, h, h, h, h] <;> try omega
    show (0 : Fq n) = _
    grind
theorem qnq {n : Nat} (hF : FldH n) (h1 : (1 : Fq n) ≠ 0) (h2 : (2 : Fq n) ≠ 0) (h3 : (3 : Fq n) ≠ 0) {a b c d : Fq n} (hb : b ≠ 0) (hd : d ≠ 0) : ∃ s : Fq n, s ≠ 0 ∧ a + s * b ≠ 0 ∧ c + s * d ≠ 0 := by
  have two : ∀ s t : Fq n, t - s ≠ 0 → ∀ {a b : Fq n}, b ≠ 0 → a + s * b = 0 → a + t * b = 0 → False := fun s t hst a b hb e1 e2 => fnz hF hst hb (by grind)
  by_cases a1 : a + 1 * b = 0
  · have b2 : a + 2 * b ≠ 0 := fun e => two 1 2 (by grind) hb a1 e
    have b3 : a + 3 * b ≠ 0 := fun e => two 1 3 (by grind) hb a1 e
    by_cases c2 : c + 2 * d = 0
    · exact ⟨3, h3, b3, fun e => two 2 3 (by grind) hd c2 e⟩
    · exact ⟨2, h2, b2, c2⟩
  · by_cases c1 : c + 1 * d = 0
    · have d2 : c + 2 * d ≠ 0 := fun e => two 1 2 (by grind) hd c1 e
      have d3 : c + 3 * d ≠ 0 := fun e => two 1 3 (by grind) hd c1 e
      by_cases a2 : a + 2 * b = 0
      · exact ⟨3, h3, fun e => two 2 3 (by grind) hb a2 e, d3⟩
      · exact ⟨2, h2, a2, d2⟩
    · exact ⟨1, h1, a1, c1⟩
theorem avoid1 {n : Nat} (h1 : (1 : Fq n) ≠ 0) (h2 : (2 : Fq n) ≠ 0) {a b : Fq n} (ha : a ≠ 0) : ∃ s : Fq n, s ≠ 0 ∧ a + s * b ≠ 0 := by
  by_cases e : a + 1 * b = 0
  · refine ⟨2, h2, fun e2 => ?_⟩
    grind
  · exact ⟨1, h1, e⟩
def onPt {n : Nat} (P Q : Nat → Fq n) (s : Fq n) (i : Nat) : Fq n := P i + s * Q i
theorem Jq {n : Nat} (a P Q : Nat → Fq n) (s : Fq n) : ev3 a (onPt P Q s) = ev3 a P + s * ev3 a Q := by simp only [ev3, onPt]; grind
theorem Zm {n : Nat} (P Q : Nat → Fq n) : ev3 (Q0 P Q) P = 0 := by simp only [ev3, Q0]; grind
theorem Z1 {n : Nat} (P Q : Nat → Fq n) : ev3 (Q0 P Q) Q = 0 := by simp only [ev3, Q0]; grind
theorem qii {n : Nat} {v : Nat → Fq n} {l : Nat → Fq n} {B : Nat → Nat → Fq n} (h : ∀ j, j < 10 → v j = lin4 l fun i => B i j) (P : Nat → Fq n) : valC v P = lin4 l fun i => valC (B i) P := by
  simp only [valC, h 0 (by omega), h 1 (by omega), h 2 (by omega), h 3 (by omega), h 4 (by omega), h 5 (by omega), h 6 (by omega), h 7 (by omega), h 8 (by omega), h 9 (by omega), lin4]
  grind
theorem Jz {n : Nat} {v : Nat → Fq n} {l : Nat → Fq n} {B : Nat → Nat → Fq n} (h : ∀ j, j < 10 → v j = lin4 l fun i => B i j) : sprd v = fun r => lin4 l fun i => sprd (B i) r := by
  funext r
  unfold sprd
  split <;> first | exact h _ (by omega) | (simp only [lin4]; grind)
def gen3 {n : Nat} (P : Nat → Nat → Fq n) : Prop := ∀ i j k, i < 6 → j < 6 → k < 6 → i ≠ j → j ≠ k → i ≠ k → ev3 (Q0 (P i) (P j)) (P k) ≠ 0
def lin6 {n : Nat} (P : Nat → Nat → Fq n) (i j k l m q : Nat) : Nat → Fq n := cub3 (Q0 (P i) (P j)) (Q0 (P k) (P l)) (Q0 (P m) (P q))
theorem Zt {n : Nat} (P : Nat → Nat → Fq n) (i j k l m q : Nat) (Q : Nat → Fq n) : valC (lin6 P i j k l m q) Q = ev3 (Q0 (P i) (P j)) Q * ev3 (Q0 (P k) (P l)) Q * ev3 (Q0 (P m) (P q)) Q := qmt _ _ _ _
theorem qmv {n : Nat} (P : Nat → Nat → Fq n) (i j k l m q : Nat) (h : ∀ x, x < 6 → x = i ∨ x = j ∨ x = k ∨ x = l ∨ x = m ∨ x = q) : ∀ x, x < 6 → valC (lin6 P i j k l m q) (P x) = 0 := fun x hx => by
  rw [Zt]
  rcases h x hx with rfl | rfl | rfl | rfl | rfl | rfl
  · rw [Zm]; grind
  · rw [Z1]; grind
  · rw [Zm]; grind
  · rw [Z1]; grind
  · rw [Zm]; grind
  · rw [Z1]; grind
theorem qnz {n : Nat} (hF : FldH n) (h1 : (1 : Fq n) ≠ 0) (h2 : (2 : Fq n) ≠ 0) (h3 : (3 : Fq n) ≠ 0) (P : Nat → Nat → Fq n) (hG : gen3 P) (B : Nat → Nat → Fq n)
    (hB : ∀ v : Nat → Fq n, (∀ x, x < 6 → valC v (P x) = 0) → ∃ l : Nat → Fq n, ∀ j, j < 10 → v j = lin4 l fun i => B i j) :
    ∃ f : Nat → Fq n, (∃ c, c < 20 ∧ f c ≠ 0) ∧ ∀ r, sm 20 (fun c => f c * proT (fun i => sprd (B i)) c r) = 0 := by
  have S := qmv P
  obtain ⟨x1, hx1⟩ := hB _ (S 0 3 1 4 2 5 (by omega))
  obtain ⟨x2, hx2⟩ := hB _ (S 0 4 1 5 2 3 (by omega))
  obtain ⟨x3, hx3⟩ := hB _ (S 0 5 1 3 2 4 (by omega))
  obtain ⟨y1, hy1⟩ := hB _ (S 0 3 1 5 2 4 (by omega))
  obtain ⟨y2, hy2⟩ := hB _ (S 0 4 1 3 2 5 (by omega))
  obtain ⟨y3, hy3⟩ := hB _ (S 0 5 1 4 2 3 (by omega))
  refine ⟨fun c => cubC x1 x2 x3 c - cubC y1 y2 y3 c, ?_, fun r => ?_⟩
  · apply Classical.byContradiction
    intro hn
    have hz : ∀ c, c < 20 → cubC x1 x2 x3 c = cubC y1 y2 y3 c := fun c hc => by
      have : ¬ (cubC x1 x2 x3 c - cubC y1 y2 y3 c ≠ 0) := fun h => hn ⟨c, hc, h⟩
      have := Classical.not_not.1 this
      grind
    have hv : ∀ y : Nat → Fq n, lin4 x1 y * lin4 x2 y * lin4 x3 y = lin4 y1 y * lin4 y2 y * lin4 y3 y := fun y => by
      rw [← qkj, ← qkj]
      exact Qr _ fun c hc => by rw [hz c hc]
    obtain ⟨s, hs, s1, s2⟩ := qnq hF h1 h2 h3 (a := ev3 (Q0 (P 1) (P 4)) (P 0)) (c := ev3 (Q0 (P 2) (P 5)) (P 0)) (hG 1 4 3 (by omega) (by omega) (by omega) (by omega) (by omega) (by omega)) (hG 2 5 3 (by omega) (by omega) (by omega) (by omega) (by omega) (by omega))
    obtain ⟨t, ht, t1, _⟩ := qnq hF h1 h2 h3 (a := ev3 (Q0 (P 0) (P 3)) (P 1)) (c := 1) (hG 0 3 4 (by omega) (by omega) (by omega) (by omega) (by omega) (by omega)) h1
    have a2 : valC (lin6 P 0 4 1 3 2 5) (onPt (P 0) (P 3) s) ≠ 0 := by
      rw [Zt, Jq, Jq, Jq, Zm, Z1]
      refine fnz hF (fnz hF ?_ ?_) s2
      · have := fnz hF hs (hG 0 4 3 (by omega) (by omega) (by omega) (by omega) (by omega) (by omega)); grind
      · have := hG 1 3 0 (by omega) (by omega) (by omega) (by omega) (by omega) (by omega); grind
    have a1 : valC (lin6 P 0 3 1 5 2 4) (onPt (P 1) (P 4) t) ≠ 0 := by
      rw [Zt, Jq, Jq, Jq, Zm, Z1]
      refine fnz hF (fnz hF t1 ?_) ?_
      · have := fnz hF ht (hG 1 5 4 (by omega) (by omega) (by omega) (by omega) (by omega) (by omega)); grind
      · have := hG 2 4 1 (by omega) (by omega) (by omega) (by omega) (by omega) (by omega); grind
    have a3 : valC (lin6 P 0 5 1 4 2 3) (onPt (P 0) (P 3) s) ≠ 0 := by
      rw [Zt, Jq, Jq, Jq, Zm, Z1]
      refine fnz hF (fnz hF ?_ s1) ?_
      · have := fnz hF hs (hG 0 5 3 (by omega) (by omega) (by omega) (by omega) (by omega) (by omega)); grind
      · have := hG 2 3 0 (by omega) (by omega) (by omega) (by omega) (by omega) (by omega); grind
    have b1 : valC (lin6 P 0 3 1 5 2 4) (onPt (P 0) (P 3) s) = 0 := by rw [Zt, Jq, Zm, Z1]; grind
    have b3 : valC (lin6 P 0 5 1 4 2 3) (onPt (P 1) (P 4) t) = 0 := by rw [Zt, Jq, Jq, Jq, Zm (P 1), Z1 (P 1)]; grind
    have c1 : valC (lin6 P 0 3 1 4 2 5) (onPt (P 0) (P 3) s) = 0 := by rw [Zt, Jq, Zm, Z1]; grind
    have c2 : valC (lin6 P 0 3 1 4 2 5) (onPt (P 1) (P 4) t) = 0 := by rw [Zt, Jq, Jq, Jq, Zm (P 1), Z1 (P 1)]; grind
    obtain ⟨u, hu, hu2⟩ := avoid1 h1 h2 (b := valC (lin6 P 0 4 1 3 2 5) (onPt (P 1) (P 4) t)) a2
    have hY := hv fun i => valC (B i) (onPt (P 0) (P 3) s) + u * valC (B i) (onPt (P 1) (P 4) t)
    have lin : ∀ (v l : Nat → Fq n), (∀ j, j < 10 → v j = lin4 l fun i => B i j) → lin4 l (fun i => valC (B i) (onPt (P 0) (P 3) s) + u * valC (B i) (onPt (P 1) (P 4) t)) = valC v (onPt (P 0) (P 3) s) + u * valC v (onPt (P 1) (P 4) t) := fun v l h => by
      rw [qii h, qii h]
      simp only [lin4]
      grind
    rw [lin _ _ hx1, lin _ _ hy1, lin _ _ hy2, lin _ _ hy3, c1, c2, b1, b3] at hY
    have e1 := fnz hF hu a1
    have := fnz hF (fnz hF e1 hu2) a3
    grind
  · have e : sm 20 (fun c => (cubC x1 x2 x3 c - cubC y1 y2 y3 c) * proT (fun i => sprd (B i)) c r) = sm 20 (fun c => cubC x1 x2 x3 c * proT (fun i => sprd (B i)) c r) + (-1) * sm 20 (fun c => cubC y1 y2 y3 c * proT (fun i => sprd (B i)) c r) := by
      rw [← qe6, ← qhc]
      exact Qr _ fun c _ => by grind
    rw [e, qhz, qhz, ← Jz hx1, ← Jz hx2, ← Jz hx3, ← Jz hy1, ← Jz hy2, ← Jz hy3]
    unfold lin6
    simp only [qlx]
    have : ∀ a b c d e f g h i : Nat → Fq n, mulP (mulP (mulP (mulP a b) c) (mulP (mulP d e) f)) (mulP (mulP g h) i) = mulP (mulP (mulP (mulP a e) i) (mulP (mulP d h) c)) (mulP (mulP g b) f) := fun a b c d e f g h i => by ac_rfl
    rw [this]
    grind
def fi (n : Nat) (x : Int) : Fq n := ⟨(x % ((n : Int) + 1)).toNat, by have := Int.emod_lt_of_pos x (show (0 : Int) < (n : Int) + 1 by omega); have := Int.emod_nonneg x (show (n : Int) + 1 ≠ 0 by omega); omega⟩
theorem qah (n : Nat) (x : Int) : (((fi n x).val : Nat) : Int) = x % ((n : Int) + 1) := by
  have := Int.emod_nonneg x (show (n : Int) + 1 ≠ 0 by omega)
  show (((x % ((n : Int) + 1)).toNat : Nat) : Int) = _
  omega
theorem qfk {n : Nat} {a b : Fq n} (h : ((a.val : Nat) : Int) = (b.val : Nat)) : a = b := Fin.ext (by omega)
theorem qaw (n : Nat) (x y : Int) : fi n (x + y) = fi n x + fi n y := by
  apply qfk
  rw [Fin.val_add, Int.natCast_emod, Int.natCast_add, qah, qah, qah, Int.natCast_add, Int.natCast_one, ← Int.add_emod]
theorem qcl (n : Nat) (x y : Int) : fi n (x * y) = fi n x * fi n y := by
  apply qfk
  rw [Fin.val_mul, Int.natCast_emod, Int.natCast_mul, qah, qah, qah, Int.natCast_add, Int.natCast_one, ← Int.mul_emod]
theorem qbf (n : Nat) (x : Int) : fi n x = 0 ↔ ((n : Int) + 1) ∣ x := by
  rw [Int.dvd_iff_emod_eq_zero, ← qah]
  constructor
  · intro h; rw [h]; rfl
  · intro h; exact qfk (by rw [h]; rfl)
theorem qax (n : Nat) : fi n 0 = 0 := (qbf n 0).2 ⟨0, by omega⟩
theorem fi_neg (n : Nat) (x : Int) : fi n (-x) = - fi n x := by
  have := qaw n x (-x)
  rw [show x + -x = 0 by omega, qax] at this
  grind
theorem qnj (n : Nat) (x y : Int) : fi n (x - y) = fi n x - fi n y := by
  rw [Int.sub_eq_add_neg, qaw, fi_neg]
  grind
theorem fi_eq (n : Nat) (x y : Int) : fi n x = fi n y ↔ ((n : Int) + 1) ∣ x - y := by
  rw [← qbf, qnj]
  constructor <;> intro h <;> grind
theorem fi_mod (n : Nat) (x : Int) : fi n (x % ((n : Int) + 1)) = fi n x := by
  rw [fi_eq]
  exact ⟨-(x / ((n : Int) + 1)), by have := Int.mul_ediv_add_emod x ((n : Int) + 1); grind⟩
theorem J4 (n : Nat) (a : Fq n) : fi n (a.val : Nat) = a := qfk (by rw [qah, Int.emod_eq_of_lt (by omega) (by have := a.isLt; omega)])
end Go.Proofs.Ytmgbpmihbljngaa.PA
namespace Go.Proofs.Ytmgbpmihbljngaa.PA
open Go.RowKit Go.Proofs.YtmgbpmihbljngaaW.PrintWords Go.Proofs.YtmgbpmihbljngaaW.PrintLast Go.Proofs.YtmgbpmihbljngaaW.PrintMore
set_option linter.unusedVariables false
set_option linter.unusedSimpArgs false
def nn (p : Int) : Nat := p.toNat - 1
theorem nn_p {p : Int} (hp : zk p = true) : ((nn p : Nat) : Int) + 1 = p := by have := zw hp; unfold nn; omega
theorem qbz {p : Int} (hp : zk p = true) (x : Int) : fi (nn p) x = 0 ↔ p ∣ x := by rw [qbf, nn_p hp]
theorem fp_eq {p : Int} (hp : zk p = true) (x y : Int) : fi (nn p) x = fi (nn p) y ↔ p ∣ x - y := by rw [fi_eq, nn_p hp]
theorem qhb {p : Int} (hp : zk p = true) (x : Int) : fi (nn p) (x % p) = fi (nn p) x := by
  have := fi_mod (nn p) x
  rwa [nn_p hp] at this
theorem fi_one (n : Nat) : fi (n + 1) 1 = 1 := by
  apply qfk
  rw [qah, Int.emod_eq_of_lt (by omega) (by omega)]
  rfl
theorem qe9 {p : Int} (hp : zk p = true) : fi (nn p) 1 = 1 := by
  have := zw hp
  obtain ⟨m, hm⟩ : ∃ m, nn p = m + 1 := ⟨nn p - 1, by unfold nn; omega⟩
  rw [hm]; exact fi_one m
theorem qjl {p : Int} (hp : zk p = true) : FldH (nn p) := fun a ha => by
  have hb := zw hp
  have hlt : ((a.val : Nat) : Int) < p := by have := a.isLt; have := nn_p hp; omega
  have hne : ((a.val : Nat) : Int) ≠ 0 := fun e => ha (Fin.ext (by show a.val = 0; omega))
  obtain ⟨_, _, _, h, _⟩ := Ze hp (x := ((a.val : Nat) : Int)) (by omega) hlt
  refine ⟨fi (nn p) (invP p ((a.val : Nat) : Int)), ?_⟩
  have e : a = fi (nn p) ((a.val : Nat) : Int) := (J4 _ a).symm
  rw [e, ← qcl, J4, ← qhb hp, h hne, qe9 hp]
theorem qes {p : Int} (hp : zk p = true) {x : Int} (h0 : 0 < x) (h1 : x < 7) : fi (nn p) x ≠ 0 := fun h => by
  have hb := zw hp
  have := Int.le_of_dvd h0 ((qbz hp x).1 h)
  omega
theorem fp_1 {p : Int} (hp : zk p = true) : (1 : Fq (nn p)) ≠ 0 := by rw [← qe9 hp]; exact qes hp (by omega) (by omega)
theorem qng {p : Int} (hp : zk p = true) : fi (nn p) 2 = 2 := by rw [show (2 : Int) = 1 + 1 from rfl, qaw, qe9 hp]; grind
theorem qmr {p : Int} (hp : zk p = true) : fi (nn p) 3 = 3 := by rw [show (3 : Int) = 2 + 1 from rfl, qaw, qe9 hp, qng hp]; grind
theorem fp_2 {p : Int} (hp : zk p = true) : (2 : Fq (nn p)) ≠ 0 := by rw [← qng hp]; exact qes hp (by omega) (by omega)
theorem fp_3 {p : Int} (hp : zk p = true) : (3 : Fq (nn p)) ≠ 0 := by rw [← qmr hp]; exact qes hp (by omega) (by omega)
end Go.Proofs.Ytmgbpmihbljngaa.PA
namespace Go.Proofs.Ytmgbpmihbljngaa.PA
open Go.RowKit Go.Proofs.YtmgbpmihbljngaaW.PrintWords Go.Proofs.YtmgbpmihbljngaaW.PrintLast Go.Proofs.YtmgbpmihbljngaaW.PrintMore
set_option linter.unusedVariables false
set_option linter.unusedSimpArgs false
theorem qej (p : Int) : ∀ (d c : Nat) (L O : List (List Int)), (redP p d c L O).length ≤ L.length + O.length
  | 0, _, L, O => by rw [redP]; omega
  | d + 1, c, L, O => by
    rw [redP]
    split
    · exact qej p d (c + 1) L O
    · next i hf =>
      have hi := (qc6 hf).1
      refine Nat.le_trans (qej p d (c + 1) _ _) ?_
      simp [List.length_eraseIdx, hi]
      omega
def qb7 (p : Int) (w : Nat) (L : List (List Int)) : Nat := (redP p w 0 L []).length
end Go.Proofs.Ytmgbpmihbljngaa.PA
namespace Go.Proofs.Ytmgbpmihbljngaa.PA
open Go.RowKit Go.Proofs.YtmgbpmihbljngaaW.PrintWords Go.Proofs.YtmgbpmihbljngaaW.PrintLast Go.Proofs.YtmgbpmihbljngaaW.PrintMore
set_option linter.unusedVariables false
set_option linter.unusedSimpArgs false
theorem qgg {p : Int} (hp : zk p = true) {w : Nat} {L M : List (List Int)} (hL : okR p w L) (hM : okR p w M) (h : ∀ r ∈ L, Sp p w M (fn r)) : qb7 p w L ≤ qb7 p w M := by
  have hb := zw hp
  obtain ⟨P, e1, _, hP, _, h2⟩ := qan hp hL
  obtain ⟨Q, e3, _, hQ, h4, _⟩ := qan hp hM
  rw [qb7, qb7, e1, e3, List.length_map, List.length_map]
  exact hP.len_le (by omega) hQ fun x hx => Sp.sub h4 (Sp.sub h (h2 x hx))
theorem qkt {p : Int} {w : Nat} (L : List (List Int)) : qb7 p w L ≤ L.length := by
  have := qej p w 0 L []
  simpa [qb7] using this
end Go.Proofs.Ytmgbpmihbljngaa.PA
namespace Go.Proofs.Ytmgbpmihbljngaa.PA
open Go.RowKit Go.Proofs.YtmgbpmihbljngaaW.PrintWords Go.Proofs.YtmgbpmihbljngaaW.PrintLast Go.Proofs.YtmgbpmihbljngaaW.PrintMore
set_option linter.unusedVariables false
set_option linter.unusedSimpArgs false
theorem Za {p : Int} (hp : zk p = true) {w : Nat} {L : List (List Int)} (hL : okR p w L) :
    ∃ N : List (Nat × List Int), Qt p w L = N.map Prod.snd ∧ Rref p w N ∧ (∀ x ∈ N, ∀ r ∈ L, p ∣ dt w (fn r) (fn x.2)) ∧ ∀ v : Nat → Int, (∀ r ∈ L, p ∣ dt w (fn r) v) → Sp p w (N.map Prod.snd) v := by
  have hb := zw hp
  obtain ⟨e1, _, hP, h1, h2⟩ := qab hp hL
  obtain ⟨N, e3, _, hN, h4, h5⟩ := qan hp (qae (by omega) hP)
  have hcomm : ∀ u v : Nat → Int, dt w u v = dt w v u := fun u v => by
    rw [dt, dt]; congr 1; exact List.map_congr_left fun j _ => Int.mul_comm _ _
  refine ⟨N, e3, hN, fun x hx r hr => ?_, fun v hv => ?_⟩
  · refine qmu (L := (Js p w L).map Prod.snd) (fun s hs => ?_) (h1 r hr)
    obtain ⟨z, hz, rfl⟩ := List.mem_map.1 hs
    rw [hcomm]
    refine qmu (L := Zk p w (Js p w L)) (fun q hq => ?_) (h5 x hx)
    rw [hcomm]
    exact qjv hP hz hq
  · exact Sp.sub h4 (qf1 hP fun x hx => qmu hv (h2 x hx))
theorem qn3 {p : Int} (hp : zk p = true) {w : Nat} {L : List (List Int)} (hL : okR p w L) (hr : qb7 p w L < w) : Qt p w L ≠ [] := by
  have hb := zw hp
  obtain ⟨e1, _, hP, h1, h2⟩ := qab hp hL
  rw [qb7, e1, List.length_map] at hr
  obtain ⟨c, hc, hf⟩ := qif hP hr
  obtain ⟨N, e3, _, hN, h4, h5⟩ := qan hp (qae (by omega) hP)
  intro e
  rw [Qt] at e
  rw [e] at e3
  have hN0 : N.map Prod.snd = [] := e3.symm
  have hs := h4 (Qn p w (Js p w L) c) (List.mem_map.2 ⟨c, List.mem_filter.2 ⟨by simpa using hc, hf⟩, rfl⟩)
  rw [hN0] at hs
  cases hs with
  | zero _ hz =>
    have := hz c hc
    rw [Z8 hP hc (qat hf), if_pos rfl] at this
    exact qbp (by omega) this
  | add _ u r t hr2 _ _ => exact absurd hr2 (by simp)
end Go.Proofs.Ytmgbpmihbljngaa.PA
namespace Go.Proofs.Ytmgbpmihbljngaa.PA
open Go.RowKit Go.Proofs.YtmgbpmihbljngaaW.PrintWords Go.Proofs.YtmgbpmihbljngaaW.PrintLast Go.Proofs.YtmgbpmihbljngaaW.PrintMore
set_option linter.unusedVariables false
set_option linter.unusedSimpArgs false
def tr (w : Nat) (L : List (List Int)) : List (List Int) := (List.range w).map fun j => L.map fun r => fn r j
theorem qhl (L : List (List Int)) (f : List Int → Int) (i : Nat) (hi : i < L.length) : fn (L.map f) i = f (L.getD i []) := by
  rw [fn, Z6 _ i (by rw [List.length_map]; exact hi), List.getElem_map, List.getD_eq_getElem?_getD, List.getElem?_eq_getElem hi]; rfl
theorem tr_ok {p : Int} {w : Nat} {L : List (List Int)} (hL : okR p w L) : okR p L.length (tr w L) := fun r hr => by
  obtain ⟨j, hj, rfl⟩ := List.mem_map.1 hr
  refine ⟨by simp, fun x hx => ?_⟩
  obtain ⟨q, hq, rfl⟩ := List.mem_map.1 hx
  exact Jn (hL q hq) j (by simpa using hj)
theorem qjf {p : Int} {w : Nat} {N : List (Nat × List Int)} (h : Rref p w N) : ((List.range w).filter (j4 N)).length + N.length ≤ w := by
  have h1 := Q7 (P := N) (Q := ((List.range w).filter fun c => !j4 N c).map fun c => (c, ([] : List Int))) h.inc (by
    rw [List.pairwise_map]; exact List.Pairwise.sublist List.filter_sublist List.pairwise_lt_range) (fun x hx => by
    refine ⟨(x.1, []), List.mem_map.2 ⟨x.1, List.mem_filter.2 ⟨by simpa using h.lt x hx, ?_⟩, rfl⟩, rfl⟩
    cases hf : j4 N x.1 with
    | false => rfl
    | true => exact absurd rfl (qat hf x hx))
  rw [List.length_map] at h1
  have h2 : ((List.range w).filter (j4 N)).length + ((List.range w).filter fun c => !j4 N c).length = w := by
    have : ∀ l : List Nat, (l.filter (j4 N)).length + (l.filter fun c => !j4 N c).length = l.length := fun l => by
      induction l with
      | nil => rfl
      | cons a l ih => cases hf : j4 N a <;> simp [hf] <;> omega
    simpa using this (List.range w)
  omega
theorem qm5 {p : Int} (hp : zk p = true) {w : Nat} {L : List (List Int)} (hL : okR p w L) : qb7 p w L + (Qt p L.length (tr w L)).length ≤ L.length := by
  obtain ⟨N, e, hN, h4, _⟩ := Za hp (tr_ok hL)
  rw [e, List.length_map]
  have hc := qjf hN
  have hok : okR p w (((List.range L.length).filter (j4 N)).map fun i => L.getD i []) := fun r hr => by
    obtain ⟨i, hi, rfl⟩ := List.mem_map.1 hr
    exact hL _ (Q3 (by have := (List.mem_filter.1 hi).1; simpa using this))
  have hmono := qgg hp hL hok (fun r hr => by
    obtain ⟨i, hi, rfl⟩ := List.mem_iff_getElem.1 hr
    have ei : L[i] = L.getD i [] := by rw [List.getD_eq_getElem?_getD, List.getElem?_eq_getElem hi]; rfl
    by_cases hf : j4 N i = true
    · exact Sp.mem (List.mem_map.2 ⟨i, List.mem_filter.2 ⟨by simpa using hi, hf⟩, ei.symm⟩)
    · have hex : ∃ z ∈ N, z.1 = i := by
        by_cases he : ∃ z ∈ N, z.1 = i
        · exact he
        · exact absurd (qcw he) hf
      obtain ⟨z, hz, rfl⟩ := hex
      have hsp : ∀ l : List Nat, (∀ c ∈ l, c ∈ (List.range L.length).filter (j4 N)) → Sp p w (((List.range L.length).filter (j4 N)).map fun i => L.getD i []) fun j => (l.map fun c => fn z.2 c * fn (L.getD c []) j).sum := by
        intro l
        induction l with
        | nil => intro _; exact .zero _ fun j _ => by simp
        | cons c l ih =>
          intro hl
          exact .add _ _ (L.getD c []) (fn z.2 c) (List.mem_map.2 ⟨c, hl c (by simp), rfl⟩) (ih fun d hd => hl d (by simp [hd])) fun j _ => by
            rw [List.map_cons, List.sum_cons]; exact ⟨0, by omega⟩
      refine ((hsp _ fun c hc => hc).scale (-1)).congr fun j hj => ?_
      have hd := h4 z hz (L.map fun r => fn r j) (List.mem_map.2 ⟨j, by simpa using hj, rfl⟩)
      have hcomm : dt L.length (fn (L.map fun r => fn r j)) (fn z.2) = dt L.length (fn z.2) (fn (L.map fun r => fn r j)) := by
        rw [dt, dt]; congr 1; exact List.map_congr_left fun i _ => Int.mul_comm _ _
      rw [hcomm, qjy hN hz, qhl L (fun r => fn r j) z.1 (hN.lt z hz)] at hd
      have e3 : (((List.range L.length).filter (j4 N)).map fun c => fn z.2 c * fn (L.map fun r => fn r j) c) = (((List.range L.length).filter (j4 N)).map fun c => fn z.2 c * fn (L.getD c []) j) := by
        refine List.map_congr_left fun c hc => ?_
        have hcl : c < L.length := by have := (List.mem_filter.1 hc).1; simpa using this
        rw [qhl L (fun r => fn r j) c hcl]
      rw [e3] at hd
      rw [ei]
      exact Zq 1 hd (by omega))
  have hle := qkt (p := p) (w := w) (((List.range L.length).filter (j4 N)).map fun i => L.getD i [])
  rw [List.length_map] at hle
  omega
end Go.Proofs.Ytmgbpmihbljngaa.PA
namespace Go.Proofs.Ytmgbpmihbljngaa.PA
open Go.RowKit Go.Proofs.YtmgbpmihbljngaaW.PrintWords Go.Proofs.YtmgbpmihbljngaaW.PrintLast Go.Proofs.YtmgbpmihbljngaaW.PrintMore
set_option linter.unusedVariables false
set_option linter.unusedSimpArgs false
theorem qkn (n : Nat) (u v : Nat → Int) : ∀ w, fi n (dt w u v) = sm w fun j => fi n (u j) * fi n (v j)
  | 0 => by rw [sm]; exact qax n
  | w + 1 => by
    have e : dt (w + 1) u v = dt w u v + u w * v w := by simp [dt, List.range_succ]
    rw [e, qaw, qcl, qkn n u v w, sm]
theorem Sp.sumN {p : Int} {w : Nat} {L : List (List Int)} (t : Nat → Int) : ∀ m, m ≤ L.length → Sp p w L fun x => dt m t fun j => fn (L.getD j []) x
  | 0, _ => .zero _ fun j _ => by simp [dt]
  | m + 1, h => by
    refine ((Sp.sumN t m (by omega)).sum ((Sp.mem (Q3 (L := L) (i := m) (by omega))).scale (t m))).congr fun j _ => ?_
    have e : dt (m + 1) t (fun k => fn (L.getD k []) j) = dt m t (fun k => fn (L.getD k []) j) + t m * fn (L.getD m []) j := by simp [dt, List.range_succ]
    rw [e]; exact ⟨0, by omega⟩
theorem qbi {L : List (List Int)} {r : List Int} (h : r ∈ L) : ∃ i, i < L.length ∧ L.getD i [] = r := by
  obtain ⟨i, hi, e⟩ := List.mem_iff_getElem.1 h
  exact ⟨i, hi, by rw [List.getD_eq_getElem?_getD, List.getElem?_eq_getElem hi]; exact e⟩
theorem Sp.lin4 {p : Int} (hp : zk p = true) {w : Nat} {N : List (List Int)} (hN : N.length = 4) {v : Nat → Int} (h : Sp p w N v) : ∃ l : Nat → Fq (nn p), ∀ j, j < w → fi (nn p) (v j) = PA.lin4 l fun i => fi (nn p) (fn (N.getD i []) j) := by
  induction h with
  | zero v hz => exact ⟨fun _ => 0, fun j hj => by rw [(qbz hp _).2 (hz j hj)]; simp only [PA.lin4]; grind⟩
  | add v u r t hr _ h2 ih =>
    obtain ⟨l, hl⟩ := ih
    obtain ⟨i, hi, e⟩ := qbi hr
    refine ⟨fun k => l k + if k = i then fi (nn p) t else 0, fun j hj => ?_⟩
    rw [(fp_eq hp _ _).2 (h2 j hj), qaw, qcl, hl j hj]
    rcases (show i = 0 ∨ i = 1 ∨ i = 2 ∨ i = 3 by omega) with rfl | rfl | rfl | rfl <;> (rw [← e]; simp [PA.lin4]; grind)
def qb2 (w i : Nat) : List Int := (List.replicate w 0).set i 1
theorem qk4 (w i j : Nat) (hi : i < w) : fn (qb2 w i) j = if j = i then 1 else 0 := by
  rw [qb2, Z5 _ _ _ _ (by simpa using hi)]
  split
  · rfl
  · simp only [fn, rd, Int.toNat_natCast, List.getD_eq_getElem?_getD, List.getElem?_replicate]
    split <;> rfl
theorem qkb {p : Int} (hp : 2 ≤ p) (w i : Nat) : (qb2 w i).length = w ∧ ∀ x ∈ qb2 w i, 0 ≤ x ∧ x < p := by
  refine ⟨by simp [qb2], fun x hx => ?_⟩
  rcases List.mem_or_eq_of_mem_set hx with h | h
  · have := (List.mem_replicate.1 h).2; omega
  · omega
theorem qk0 (v : Nat → Int) (i : Nat) : ∀ w, dt w (fun j => if j = i then 1 else 0) v = if i < w then v i else 0
  | 0 => by simp [dt]
  | w + 1 => by
    have e : dt (w + 1) (fun j => if j = i then 1 else 0) v = dt w (fun j => if j = i then 1 else 0) v + (if w = i then 1 else 0) * v w := by simp [dt, List.range_succ]
    rw [e, qk0 v i w]
    by_cases h : w = i
    · subst h; simp
    · by_cases h2 : i < w
      · rw [if_pos h2, if_neg h, if_pos (show i < w + 1 by omega)]; omega
      · rw [if_neg h2, if_neg h, if_neg (show ¬ i < w + 1 by omega)]; omega
theorem qom {p : Int} (hp : zk p = true) {w : Nat} {L : List (List Int)} (hL : okR p w L) : w ≤ (Qt p w L).length + L.length := by
  have hb := zw hp
  obtain ⟨N, e, hN, _, hc⟩ := Za hp hL
  rw [e, List.length_map]
  apply Classical.byContradiction
  intro hlt
  have hM : okR p w (L ++ N.map fun x => qb2 w x.1) := qg0 hL fun r hr => by
    obtain ⟨x, _, rfl⟩ := List.mem_map.1 hr
    exact qkb (by omega) w x.1
  have hne := qn3 hp hM (Nat.lt_of_le_of_lt (qkt _) (by simp; omega))
  obtain ⟨Q, e2, hQ, h2, _⟩ := Za hp hM
  rw [e2] at hne
  cases Q with
  | nil => exact hne rfl
  | cons z Q =>
    have hv : Sp p w (N.map Prod.snd) (fn z.2) := hc _ fun r hr => h2 z (by simp) r (List.mem_append_left _ hr)
    have hz := hN.coord hv z.1 (hQ.lt z (by simp))
    have hcs : p ∣ cs N (fn z.2) z.1 := qd6 fun x hx => by
      have := h2 z (by simp) (qb2 w x.1) (List.mem_append_right _ (List.mem_map.2 ⟨x, hx, rfl⟩))
      have hf : fn (qb2 w x.1) = fun j => if j = x.1 then 1 else 0 := funext fun j => qk4 w x.1 j (hN.lt x hx)
      rw [hf, qk0, if_pos (hN.lt x hx)] at this
      exact Int.dvd_mul_of_dvd_left this
    rw [hQ.one z (by simp)] at hz
    exact qbp (p := p) (by omega) (Zn 1 1 hz hcs (by omega))
theorem tr_tr {p : Int} {w : Nat} {L : List (List Int)} (hL : okR p w L) : tr L.length (tr w L) = L := by
  apply List.ext_getElem
  · simp [tr]
  · intro i h1 h2
    simp only [tr, List.getElem_map, List.getElem_range, List.map_map]
    have hl := (hL _ (List.getElem_mem h2)).1
    apply List.ext_getElem
    · simp [hl]
    · intro j h3 h4
      simp only [List.getElem_map, List.getElem_range, Function.comp]
      rw [qhl _ _ _ h2, List.getD_eq_getElem?_getD, List.getElem?_eq_getElem h2]
      exact Z6 _ _ h4
theorem fn_tr {w : Nat} (L : List (List Int)) (i j : Nat) (hi : i < w) (hj : j < L.length) : fn ((tr w L).getD i []) j = fn (L.getD j []) i := by
  have e : (tr w L).getD i [] = L.map fun r => fn r i := by simp [tr, List.getD_eq_getElem?_getD, hi]
  rw [e, qhl _ _ _ hj]
theorem qjz : ∀ p ∈ ([7, 11, 13, 17, 19, 23, 29, 31] : List Int), qb7 p 6 ((List.range 6).map (qb2 6)) = 6 := by decide +kernel
end Go.Proofs.Ytmgbpmihbljngaa.PA
namespace Go.Proofs.Ytmgbpmihbljngaa.PA
open Go.RowKit Go.Proofs.YtmgbpmihbljngaaW.PrintWords Go.Proofs.YtmgbpmihbljngaaW.PrintLast Go.Proofs.YtmgbpmihbljngaaW.PrintMore
set_option linter.unusedVariables false
set_option linter.unusedSimpArgs false
def p3 (n : Nat) (t : Int × Int × Int) : Nat → Fq n
  | 0 => fi n t.1
  | 1 => fi n t.2.1
  | _ => fi n t.2.2
def cubR (p : Int) (t : Int × Int × Int) : List Int := [t.1 * t.1 * t.1 % p, t.1 * t.1 * t.2.1 % p, t.1 * t.1 * t.2.2 % p, t.1 * t.2.1 * t.2.1 % p, t.1 * t.2.1 * t.2.2 % p, t.1 * t.2.2 * t.2.2 % p, t.2.1 * t.2.1 * t.2.1 % p, t.2.1 * t.2.1 * t.2.2 % p, t.2.1 * t.2.2 * t.2.2 % p, t.2.2 * t.2.2 * t.2.2 % p]
theorem qke {p : Int} (hp : zk p = true) (t : Int × Int × Int) : (cubR p t).length = 10 ∧ ∀ x ∈ cubR p t, 0 ≤ x ∧ x < p := by
  have hb := zw hp
  refine ⟨rfl, fun x hx => ?_⟩
  have hm : ∀ y : Int, 0 ≤ y % p ∧ y % p < p := fun y => ⟨Int.emod_nonneg _ (by omega), Int.emod_lt_of_pos _ (by omega)⟩
  simp only [cubR, List.mem_cons, List.not_mem_nil, or_false] at hx
  rcases hx with rfl | rfl | rfl | rfl | rfl | rfl | rfl | rfl | rfl | rfl <;> exact hm _
theorem qh3 {p : Int} (hp : zk p = true) (t : Int × Int × Int) (v : Nat → Fq (nn p)) : (sm 10 fun j => fi (nn p) (fn (cubR p t) j) * v j) = valC v (p3 (nn p) t) := by
  simp only [sm, fn, rd, Int.toNat_natCast, cubR, List.getD_cons_zero, List.getD_cons_succ, qhb hp, qcl, valC, p3]
  grind
theorem qo3 {n : Nat} {P : Nat → Nat → Fq n} (h : ∀ i j k, i < 6 → j < i → k < j → ev3 (Q0 (P i) (P j)) (P k) ≠ 0) : gen3 P := by
  have c1 : ∀ A B C : Nat → Fq n, ev3 (Q0 A B) C = ev3 (Q0 B C) A := fun A B C => by simp only [ev3, Q0]; grind
  have c2 : ∀ A B C : Nat → Fq n, ev3 (Q0 A B) C = - ev3 (Q0 B A) C := fun A B C => by simp only [ev3, Q0]; grind
  intro i j k hi hj hk h1 h2 h3
  rcases Nat.lt_or_gt_of_ne h1 with a | a <;> rcases Nat.lt_or_gt_of_ne h2 with b | b <;> rcases Nat.lt_or_gt_of_ne h3 with c | c
  · have := h k j i hk b a; rw [c2, ← c1, ]; grind
  · omega
  · have := h j k i hj b c; rw [c1]; exact this
  · have := h j i k hj a c; rw [c2]; grind
  · have := h k i j hk c a; rw [c1, c1]; exact this
  · have := h i k j hi c b; rw [c2, c1, c1, ]; grind
  · omega
  · exact h i j k hi a b
theorem sep6 {n : Nat} (hF : FldH n) {P : Nat → Nat → Fq n} (hG : gen3 P) : ∀ i, i < 6 → ∃ v : Nat → Fq n, (∀ x, x < 6 → x ≠ i → valC v (P x) = 0) ∧ valC v (P i) ≠ 0 := by
  have key : ∀ i a b c d e, i < 6 → a < 6 → b < 6 → c < 6 → d < 6 → e < 6 → (∀ x, x < 6 → x ≠ i → x = a ∨ x = b ∨ x = c ∨ x = d ∨ x = e) → i ≠ a → i ≠ b → i ≠ c → i ≠ d → i ≠ e → a ≠ b → c ≠ d → e ≠ a → ∃ v : Nat → Fq n, (∀ x, x < 6 → x ≠ i → valC v (P x) = 0) ∧ valC v (P i) ≠ 0 := by
    intro i a b c d e hi ha hb hc hd he hx ia ib ic id ie ab cd ea
    refine ⟨lin6 P a b c d e a, fun x h6 hxi => ?_, ?_⟩
    · rw [Zt]
      rcases hx x h6 hxi with rfl | rfl | rfl | rfl | rfl
      · rw [Zm]; grind
      · rw [Z1]; grind
      · rw [Zm]; grind
      · rw [Z1]; grind
      · rw [Zm]; grind
    · rw [Zt]
      exact fnz hF (fnz hF (hG a b i ha hb hi ab (Ne.symm ib) (Ne.symm ia)) (hG c d i hc hd hi cd (Ne.symm id) (Ne.symm ic))) (hG e a i he ha hi ea (Ne.symm ia) (Ne.symm ie))
  intro i hi
  rcases (show i = 0 ∨ i = 1 ∨ i = 2 ∨ i = 3 ∨ i = 4 ∨ i = 5 by omega) with rfl | rfl | rfl | rfl | rfl | rfl
  · exact key 0 1 2 3 4 5 (by omega) (by omega) (by omega) (by omega) (by omega) (by omega) (by omega) (by omega) (by omega) (by omega) (by omega) (by omega) (by omega) (by omega) (by omega)
  · exact key 1 0 2 3 4 5 (by omega) (by omega) (by omega) (by omega) (by omega) (by omega) (by omega) (by omega) (by omega) (by omega) (by omega) (by omega) (by omega) (by omega) (by omega)
  · exact key 2 1 0 3 4 5 (by omega) (by omega) (by omega) (by omega) (by omega) (by omega) (by omega) (by omega) (by omega) (by omega) (by omega) (by omega) (by omega) (by omega) (by omega)
  · exact key 3 1 2 0 4 5 (by omega) (by omega) (by omega) (by omega) (by omega) (by omega) (by omega) (by omega) (by omega) (by omega) (by omega) (by omega) (by omega) (by omega) (by omega)
  · exact key 4 1 2 3 0 5 (by omega) (by omega) (by omega) (by omega) (by omega) (by omega) (by omega) (by omega) (by omega) (by omega) (by omega) (by omega) (by omega) (by omega) (by omega)
  · exact key 5 1 2 3 4 0 (by omega) (by omega) (by omega) (by omega) (by omega) (by omega) (by omega) (by omega) (by omega) (by omega) (by omega) (by omega) (by omega) (by omega) (by omega)
def ptL (p : Int) (Q : List (Int × Int × Int)) (i : Nat) : Nat → Fq (nn p) := p3 (nn p) (Q.getD i (0, 0, 0))
def basP (p : Int) (Q : List (Int × Int × Int)) : List (List Int) := Qt p 10 (Q.map (cubR p))
def basF (p : Int) (Q : List (Int × Int × Int)) (i j : Nat) : Fq (nn p) := fi (nn p) (fn ((basP p Q).getD i []) j)
theorem qfj {p : Int} (hp : zk p = true) (Q : List (Int × Int × Int)) : okR p 10 (Q.map (cubR p)) := fun r hr => by
  obtain ⟨t, _, rfl⟩ := List.mem_map.1 hr
  exact qke hp t
theorem qk7 (p : Int) (Q : List (Int × Int × Int)) (i : Nat) (hi : i < Q.length) : (Q.map (cubR p)).getD i [] = cubR p (Q.getD i (0, 0, 0)) := by
  simp [List.getD_eq_getElem?_getD, hi]
theorem qlq {n : Nat} (c : Fq n) (v P : Nat → Fq n) : valC (fun j => c * v j) P = c * valC v P := by simp only [valC]; grind
theorem bas_le {p : Int} (hp : zk p = true) {Q : List (Int × Int × Int)} (h6 : Q.length = 6) (hG : gen3 (ptL p Q)) : (basP p Q).length ≤ 4 := by
  have hb := zw hp
  have hR := qfj hp Q
  have hT : okR p 6 (tr 10 (Q.map (cubR p))) := by have := tr_ok hR; rwa [List.length_map, h6] at this
  have h1 := qm5 hp hT
  have hl : (tr 10 (Q.map (cubR p))).length = 10 := by simp [tr]
  have ht : tr 6 (tr 10 (Q.map (cubR p))) = Q.map (cubR p) := by have := tr_tr hR; rwa [List.length_map, h6] at this
  rw [hl, ht] at h1
  have hI : okR p 6 ((List.range 6).map (qb2 6)) := fun r hr => by
    obtain ⟨i, _, rfl⟩ := List.mem_map.1 hr
    exact qkb (by omega) 6 i
  have h2 := qgg hp hI hT fun r hr => by
    obtain ⟨i, hi, rfl⟩ := List.mem_map.1 hr
    have hi6 : i < 6 := by simpa using hi
    obtain ⟨v, hv0, hv1⟩ := sep6 (qjl hp) hG i hi6
    obtain ⟨c, hc⟩ := qjl hp _ hv1
    refine (Sp.sumN (L := tr 10 (Q.map (cubR p))) (fun j => (((c * v j : Fq (nn p)).val : Nat) : Int)) 10 (by omega)).congr fun x hx => ?_
    rw [← fp_eq hp, qkn, qk4 6 i x hi6]
    have e : (sm 10 fun j => fi (nn p) (((c * v j : Fq (nn p)).val : Nat) : Int) * fi (nn p) (fn ((tr 10 (Q.map (cubR p))).getD j []) x)) = c * valC v (ptL p Q x) := by
      rw [← qlq, ptL, ← qh3 hp]
      refine Qr _ fun j hj => ?_
      rw [J4, fn_tr _ _ _ hj (by rw [List.length_map]; omega), qk7 _ _ _ (by omega)]
      grind
    rw [e]
    by_cases hxi : x = i
    · subst hxi; rw [if_pos rfl, qe9 hp]; grind
    · rw [if_neg hxi, hv0 x hx hxi, qax]; grind
  rw [qjz p (by have := Jx hp; simpa using this)] at h2
  show (Qt p 10 (Q.map (cubR p))).length ≤ 4
  omega
theorem qcp {p : Int} (hp : zk p = true) {Q : List (Int × Int × Int)} (h6 : Q.length = 6) (hG : gen3 (ptL p Q)) : (basP p Q).length = 4 := by
  have h1 := bas_le hp h6 hG
  have h2 := qom hp (qfj hp Q)
  rw [List.length_map, h6] at h2
  have : 10 ≤ (basP p Q).length + 6 := h2
  omega
theorem qov {p : Int} (hp : zk p = true) {Q : List (Int × Int × Int)} (h6 : Q.length = 6) (hG : gen3 (ptL p Q)) (v : Nat → Fq (nn p)) (hv : ∀ x, x < 6 → valC v (ptL p Q x) = 0) : ∃ l : Nat → Fq (nn p), ∀ j, j < 10 → v j = lin4 l fun i => basF p Q i j := by
  obtain ⟨N, e, hN, _, hc⟩ := Za hp (qfj hp Q)
  have hs := hc (fun j => (((v j).val : Nat) : Int)) fun r hr => by
    obtain ⟨x, hx, rfl⟩ := qbi hr
    rw [List.length_map, h6] at hx
    rw [← qbz hp, qkn, qk7 _ _ _ (by omega)]
    simp only [J4]
    rw [qh3 hp]
    exact hv x hx
  rw [← e] at hs
  obtain ⟨l, hl⟩ := Sp.lin4 hp (qcp hp h6 hG) hs
  exact ⟨l, fun j hj => by have := hl j hj; rwa [J4] at this⟩
theorem rel20 {p : Int} (hp : zk p = true) {Q : List (Int × Int × Int)} (h6 : Q.length = 6) (hG : gen3 (ptL p Q)) {T : List (List Int)} (hT : okR p 20 T) (hr : ∀ r ∈ T, ∃ e, ∀ c, c < 20 → fi (nn p) (fn r c) = proT (fun i => sprd (basF p Q i)) c e) : Qt p 20 T ≠ [] := by
  have hb := zw hp
  obtain ⟨f, ⟨c, hc, hf⟩, h⟩ := qnz (qjl hp) (fp_1 hp) (fp_2 hp) (fp_3 hp) (ptL p Q) hG (basF p Q) (qov hp h6 hG)
  obtain ⟨N, e, hN, _, hs⟩ := Za hp hT
  have h2 := hs (fun c => (((f c).val : Nat) : Int)) fun r hr' => by
    obtain ⟨q, hq⟩ := hr r hr'
    rw [← qbz hp, qkn, ← h q]
    refine Qr _ fun c hc => ?_
    rw [hq c hc, J4]
    grind
  intro e0
  rw [e] at e0
  rw [e0] at h2
  cases h2 with
  | zero _ hz =>
    have := (qbz hp _).2 (hz c hc)
    rw [J4] at this
    exact hf this
  | add _ u r t hr2 _ _ => exact absurd hr2 (by simp)
end Go.Proofs.Ytmgbpmihbljngaa.PA
namespace Go.Proofs.Ytmgbpmihbljngaa.PA
open Go.RowKit Go.Proofs.YtmgbpmihbljngaaW.PrintWords Go.Proofs.YtmgbpmihbljngaaW.PrintLast Go.Proofs.YtmgbpmihbljngaaW.PrintMore
set_option linter.unusedVariables false
set_option linter.unusedSimpArgs false
theorem qos (A B C p : Int) : A % p * (B % p) % p * (C % p) % p = A * B * C % p := by rw [Int.mul_emod (A * B) C p, Int.mul_emod A B p]
theorem qcf {p : Int} (hp : 7 ≤ p ∧ p ≤ 31) {x : Int} (hx : 0 ≤ x ∧ x < p) (n : Nat) (hn : n ≤ 3) : Ev (fun k => zp.f k p x (n : Int)) (x ^ n % p) := by
  have h0 : ∀ (d i : Nat), i + d = n → Ev (fun q => zp.l0 q p x (n : Int) (x ^ i % p) (i : Int)) (x ^ n % p) := by
    intro d
    induction d with
    | zero =>
      intro i hi
      obtain rfl : i = n := by omega
      exact Ev.step (f := fun _ => some (x ^ i % p)) (fun q => by rw [zp.l0, if_neg (by omega)]) (Ev.now _)
    | succ d ih =>
      intro i hi
      have hy : 0 ≤ x ^ i % p ∧ x ^ i % p < p := ⟨Int.emod_nonneg _ (by omega), Int.emod_lt_of_pos _ (by omega)⟩
      have hm := Qb hp hy hx
      refine Ev.step (fun q => by rw [zp.l0, if_pos (by omega), if_neg (by omega), wsm (i := x ^ i % p * x) (by omega) (by omega), wsm (i := (i : Int) + 1) (by omega) (by omega), Int.tmod_eq_emod_of_nonneg hm.1, show x ^ i % p * x % p = x ^ (i + 1) % p by rw [Int.pow_succ, Int.mul_emod, Int.emod_emod, ← Int.mul_emod]]) ?_
      exact ih (i + 1) (by omega)
  unfold zp.f
  have := h0 n 0 (by omega)
  rw [Int.pow_zero, Int.emod_eq_of_lt (by omega) (by omega)] at this
  exact this
def powL : List S41 := [⟨3, 0, 0⟩, ⟨2, 1, 0⟩, ⟨2, 0, 1⟩, ⟨1, 2, 0⟩, ⟨1, 1, 1⟩, ⟨1, 0, 2⟩, ⟨0, 3, 0⟩, ⟨0, 2, 1⟩, ⟨0, 1, 2⟩, ⟨0, 0, 3⟩]
theorem qdx : Qs.f = some powL := rfl
def powN : List (Nat × Nat × Nat) := [(3, 0, 0), (2, 1, 0), (2, 0, 1), (1, 2, 0), (1, 1, 1), (1, 0, 2), (0, 3, 0), (0, 2, 1), (0, 1, 2), (0, 0, 3)]
theorem qgz : ∀ i : Nat, i < 10 → (qy powL (i : Int)).f0 = (((powN.getD i (0, 0, 0)).1 : Nat) : Int) ∧ (qy powL (i : Int)).f1 = (((powN.getD i (0, 0, 0)).2.1 : Nat) : Int) ∧ (qy powL (i : Int)).f2 = (((powN.getD i (0, 0, 0)).2.2 : Nat) : Int) ∧ (powN.getD i (0, 0, 0)).1 ≤ 3 ∧ (powN.getD i (0, 0, 0)).2.1 ≤ 3 ∧ (powN.getD i (0, 0, 0)).2.2 ≤ 3 := by
  intro i hi
  rcases (show i = 0 ∨ i = 1 ∨ i = 2 ∨ i = 3 ∨ i = 4 ∨ i = 5 ∨ i = 6 ∨ i = 7 ∨ i = 8 ∨ i = 9 by omega) with rfl | rfl | rfl | rfl | rfl | rfl | rfl | rfl | rfl | rfl <;> exact ⟨rfl, rfl, rfl, by decide, by decide, by decide⟩
def monR (p : Int) (t : Int × Int × Int) (i : Nat) : Int := t.1 ^ (powN.getD i (0, 0, 0)).1 * t.2.1 ^ (powN.getD i (0, 0, 0)).2.1 * t.2.2 ^ (powN.getD i (0, 0, 0)).2.2 % p
theorem qhs (p : Int) (t : Int × Int × Int) : (List.range 10).map (monR p t) = cubR p t := by
  have e : ∀ x : Int, x ^ 3 = x * x * x ∧ x ^ 2 = x * x ∧ x ^ 1 = x ∧ x ^ 0 = 1 := fun x => ⟨by grind, by grind, by grind, by grind⟩
  show [monR p t 0, monR p t 1, monR p t 2, monR p t 3, monR p t 4, monR p t 5, monR p t 6, monR p t 7, monR p t 8, monR p t 9] = _
  simp only [monR, powN, List.getD_cons_zero, List.getD_cons_succ, (e _).1, (e _).2.1, (e _).2.2.1, (e _).2.2.2, Int.mul_one, Int.one_mul, cubR, Int.mul_assoc]
theorem qb3 {p : Int} (hp : 7 ≤ p ∧ p ≤ 31) (t : Int × Int × Int) (ht : inP p t) : Ev (fun k => qv.f k p t.1 t.2.1 t.2.2) (cubR p t) := by
  have h0 : ∀ (d i : Nat), i + d = 10 → Ev (fun q => qv.l0 q p ((List.range i).map (monR p t)) powL (i : Int) t.1 t.2.1 t.2.2) (cubR p t) := by
    intro d
    induction d with
    | zero =>
      intro i hi
      obtain rfl : i = 10 := by omega
      refine Ev.step (f := fun _ => some (cubR p t)) (fun q => by rw [qv.l0, if_neg (by omega), qhs]) (Ev.now _)
    | succ d ih =>
      intro i hi
      obtain ⟨e0, e1, e2, l0, l1, l2⟩ := qgz i (by omega)
      have hm : ∀ y : Int, 0 ≤ y % p ∧ y % p < p := fun y => ⟨Int.emod_nonneg _ (by omega), Int.emod_lt_of_pos _ (by omega)⟩
      have b1 := Qb hp (hm (t.1 ^ (powN.getD i (0, 0, 0)).1)) (hm (t.2.1 ^ (powN.getD i (0, 0, 0)).2.1))
      have b2 := Qb hp (hm ((t.1 ^ (powN.getD i (0, 0, 0)).1 % p) * (t.2.1 ^ (powN.getD i (0, 0, 0)).2.1 % p))) (hm (t.2.2 ^ (powN.getD i (0, 0, 0)).2.2))
      refine Ev.step (fun q => by rw [qv.l0, if_pos (by omega), if_pos (by omega), if_pos (by simp [powL]; omega), e0, e1, e2]) ?_
      refine Ev.bind (qcf hp ht.1 _ l0) (Ev.bind (qcf hp ht.2.1 _ l1) (Ev.no (by omega) (Ev.bind (qcf hp ht.2.2 _ l2) (Ev.yes (by simp; omega) ?_))))
      rw [wsm (i := (i : Int) + 1) (by omega) (by omega), wsm (i := t.1 ^ (powN.getD i (0, 0, 0)).1 % p * _) (by omega) (by omega), Int.tmod_eq_emod_of_nonneg b1.1, wsm (by omega) (by omega), Int.tmod_eq_emod_of_nonneg b2.1]
      have e : ((List.range i).map (monR p t)) ++ [t.1 ^ (powN.getD i (0, 0, 0)).1 % p * (t.2.1 ^ (powN.getD i (0, 0, 0)).2.1 % p) % p * (t.2.2 ^ (powN.getD i (0, 0, 0)).2.2 % p) % p] = (List.range (i + 1)).map (monR p t) := by
        rw [List.range_succ, List.map_append]
        congr 1
        show [_] = [monR p t i]
        rw [monR, qos]
      rw [e]
      exact ih (i + 1) (by omega)
  unfold qv.f
  rw [qdx]
  exact Ev.bind (Ev.k rfl) (h0 10 0 rfl)
end Go.Proofs.Ytmgbpmihbljngaa.PA
namespace Go.Proofs.Ytmgbpmihbljngaa.PA
open Go.RowKit Go.Proofs.YtmgbpmihbljngaaW.PrintWords Go.Proofs.YtmgbpmihbljngaaW.PrintLast Go.Proofs.YtmgbpmihbljngaaW.PrintMore
set_option linter.unusedVariables false
set_option linter.unusedSimpArgs false
theorem qgl {p : Int} (hp : zk p = true) (l : List S43) (hl : l.length = 6) (hin : ∀ j, j < l.length → inP p ((tps l).getD j (0, 0, 0))) : Ev (fun k => zh.f k p l) (basP p (tps l)) := by
  have hb := zw hp
  have hlen : (tps l).length = l.length := by simp [tps]
  have h0 : ∀ (d i : Nat) (acc : List (List Int)), i + d = 6 → acc = ((tps l).take i).map (cubR p) → Ev (fun q => zh.l0 q p l acc (i : Int)) (basP p (tps l)) := by
    intro d
    induction d with
    | zero =>
      intro i acc hi ha
      refine Ev.step (fun q => by rw [zh.l0, if_neg (by omega)]) ?_
      rw [List.take_of_length_le (by omega)] at ha
      subst ha
      have := qdg hp (w := 10) (by omega) _ (by rw [List.length_map]; omega) (qfj hp (tps l))
      exact Ev.bind this (Ev.now _)
    | succ d ih =>
      intro i acc hi ha
      have hil : i < l.length := by omega
      have hal : acc.length ≤ 1000 := by rw [ha, List.length_map, List.length_take]; omega
      have e : Ev (fun k => qv.f k p (qd l (i : Int)).f0.f0 (qd l (i : Int)).f0.f1 (qd l (i : Int)).f0.f2) (cubR p (tpl (qd l (i : Int)))) := qb3 (p := p) ⟨by omega, by omega⟩ (tpl (qd l (i : Int))) (by rw [qbq l i hil]; exact hin i hil)
      refine Ev.step (fun q => by rw [zh.l0, if_pos (by omega), if_pos (by omega), if_pos (by omega)]) (Ev.bind e ?_)
      refine Ev.yes (show acc.length < 5864062014805 by omega) ?_
      rw [wsm (by omega) (by omega)]
      refine ih (i + 1) _ (by omega) ?_
      rw [ha, List.take_add_one, List.map_append, List.getElem?_eq_getElem (by omega), qbq l i hil, List.getD_eq_getElem?_getD, List.getElem?_eq_getElem (by omega)]
      rfl
  unfold zh.f
  exact h0 6 0 [] (by omega) (by simp)
end Go.Proofs.Ytmgbpmihbljngaa.PA
namespace Go.Proofs.Ytmgbpmihbljngaa.PA
open Go.RowKit Go.Proofs.YtmgbpmihbljngaaW.PrintWords Go.Proofs.YtmgbpmihbljngaaW.PrintLast Go.Proofs.YtmgbpmihbljngaaW.PrintMore
set_option linter.unusedVariables false
set_option linter.unusedSimpArgs false
def lstF (n w : Nat) (F : Nat → Fq n) : List Int := (List.range w).map fun r => (((F r).val : Nat) : Int)
theorem Je (n w : Nat) (F : Nat → Fq n) : (lstF n w F).length = w := by simp [lstF]
theorem qet {n w : Nat} (F : Nat → Fq n) (r : Nat) (h : r < w) : fn (lstF n w F) r = (((F r).val : Nat) : Int) := by
  rw [fn, Z6 _ r (by rw [Je]; exact h)]
  simp [lstF]
theorem qj5 {p : Int} (hp : zk p = true) (w : Nat) (F : Nat → Fq (nn p)) : (lstF (nn p) w F).length = w ∧ ∀ x ∈ lstF (nn p) w F, 0 ≤ x ∧ x < p := by
  refine ⟨Je _ _ _, fun x hx => ?_⟩
  obtain ⟨r, _, rfl⟩ := List.mem_map.1 hx
  have := (F r).isLt
  have := nn_p hp
  omega
theorem qao {n w : Nat} {F G : Nat → Fq n} (h : ∀ r, r < w → F r = G r) : lstF n w F = lstF n w G :=
  List.map_congr_left fun r hr => by rw [h r (by simpa using hr)]
theorem qdb {n w : Nat} (F : Nat → Fq n) (r : Nat) (h : r < w) : fi n (fn (lstF n w F) r) = F r := by rw [qet F r h, J4]
theorem qha {p : Int} (hp : zk p = true) {w : Nat} {L : List Int} (hL : L.length = w ∧ ∀ x ∈ L, 0 ≤ x ∧ x < p) (F : Nat → Fq (nn p)) (h : ∀ r, r < w → fi (nn p) (fn L r) = F r) : L = lstF (nn p) w F := by
  refine qnn hL.1 (Je _ _ _) fun j hj => ?_
  have hr := Jn hL j hj
  rw [qet F j hj, ← h j hj, qah, nn_p hp, Int.emod_eq_of_lt hr.1 hr.2]
theorem qod {p : Int} (hp : zk p = true) {w : Nat} (F : Nat → Fq (nn p)) (j : Nat) (x : Int) (hx : 0 ≤ x ∧ x < p) : (lstF (nn p) w F).set j x = lstF (nn p) w fun r => if r = j then fi (nn p) x else F r := by
  refine qha hp ⟨by rw [List.length_set, Je], fun y hy => ?_⟩ _ fun r hr => ?_
  · rcases List.mem_or_eq_of_mem_set hy with h | h
    · exact (qj5 hp w F).2 y h
    · subst h; exact hx
  · by_cases hj : j < w
    · rw [Z5 _ _ _ _ (by rw [Je]; exact hj)]
      by_cases e : r = j
      · rw [if_pos e, if_pos e]
      · rw [if_neg e, if_neg e, qdb F r hr]
    · rw [List.set_eq_of_length_le (by rw [Je]; omega), qdb F r hr, if_neg (by omega)]
end Go.Proofs.Ytmgbpmihbljngaa.PA
namespace Go.Proofs.Ytmgbpmihbljngaa.PA
open Go.RowKit Go.Proofs.YtmgbpmihbljngaaW.PrintWords Go.Proofs.YtmgbpmihbljngaaW.PrintLast Go.Proofs.YtmgbpmihbljngaaW.PrintMore
set_option linter.unusedVariables false
set_option linter.unusedSimpArgs false
def basS (p : Int) (Q : List (Int × Int × Int)) (i : Nat) : Nat → Fq (nn p) := sprd (basF p Q i)
def surT (p : Int) (Q : List (Int × Int × Int)) : List (List Int) := (List.range 100).map fun r => lstF (nn p) 20 fun c => proT (basS p Q) c r
def surP (p : Int) (Q : List (Int × Int × Int)) : List Int := (Qt p 20 (surT p Q)).getD 0 []
theorem qef {p : Int} (hp : zk p = true) (Q : List (Int × Int × Int)) : okR p 20 (surT p Q) := fun r hr => by
  obtain ⟨c, _, rfl⟩ := List.mem_map.1 hr
  exact qj5 hp 20 _
theorem qbk {p : Int} {Q : List (Int × Int × Int)} (h : genB p Q = true) : gen3 (ptL p Q) := by
  obtain ⟨hp, h6, ha, _⟩ := Qz h
  refine qo3 fun i j k hi hj hk => ?_
  have hc := (Zl ha).2 i j k (by omega) hj hk
  intro e
  rw [colB, beq_eq_false_iff_ne] at hc
  refine hc (Int.emod_eq_zero_of_dvd ?_)
  rw [← qbz hp]
  simp only [qaw, qcl, qnj]
  simp only [ev3, Q0, ptL, p3] at e
  grind
theorem qi6 {p : Int} {Q : List (Int × Int × Int)} (h : genB p Q = true) : Qt p 20 (surT p Q) ≠ [] := by
  obtain ⟨hp, h6, _, _⟩ := Qz h
  refine rel20 hp h6 (qbk h) (qef hp Q) fun r hr => ?_
  obtain ⟨e, _, rfl⟩ := List.mem_map.1 hr
  exact ⟨e, fun c hc => qdb _ c hc⟩
theorem qo7 {p : Int} {Q : List (Int × Int × Int)} (h : genB p Q = true) : surP p Q ∈ Qt p 20 (surT p Q) := by
  have := qi6 h
  exact Q3 (List.length_pos_iff.2 this)
theorem qny {p : Int} {Q : List (Int × Int × Int)} (h : genB p Q = true) : (surP p Q).length = 20 ∧ ∀ x ∈ surP p Q, 0 ≤ x ∧ x < p := by
  obtain ⟨hp, h6, _, _⟩ := Qz h
  obtain ⟨N, e, hN, _, _⟩ := Za hp (qef hp Q)
  have hm := qo7 h
  rw [e] at hm
  obtain ⟨z, hz, ez⟩ := List.mem_map.1 hm
  rw [← ez]
  exact hN.ok z hz
theorem qez {p : Int} {Q : List (Int × Int × Int)} (hp : zk p = true) (i : Nat) (hi : i < (basP p Q).length) : ((basP p Q).getD i []).length = 10 ∧ ∀ x ∈ (basP p Q).getD i [], 0 ≤ x ∧ x < p := by
  obtain ⟨N, e, hN, _, _⟩ := Za hp (qfj hp Q)
  have hm := Q3 hi
  rw [basP, e] at hm
  obtain ⟨z, hz, ez⟩ := List.mem_map.1 hm
  rw [basP, e, ← ez]
  exact hN.ok z hz
end Go.Proofs.Ytmgbpmihbljngaa.PA
namespace Go.Proofs.Ytmgbpmihbljngaa.PA
open Go.RowKit Go.Proofs.YtmgbpmihbljngaaW.PrintWords Go.Proofs.YtmgbpmihbljngaaW.PrintLast Go.Proofs.YtmgbpmihbljngaaW.PrintMore
set_option linter.unusedVariables false
set_option linter.unusedSimpArgs false
def imgP (p : Int) (Q : List (Int × Int × Int)) (t : Int × Int × Int) : List Int := (basP p Q).map fun r => dotP p r (cubR p t)
def qc8 (p : Int) (Q : List (Int × Int × Int)) (t : Int × Int × Int) : List Int × Bool := if (genB p Q = true ∧ ptB p t.1 t.2.1 t.2.2 = true) ∧ (imgP p Q t).all (fun x => x == 0) = false then (rowP p (imgP p Q t), true) else ([], false)
theorem qli {p : Int} (hp : zk p = true) (Q : List (Int × Int × Int)) (t : Int × Int × Int) : ∀ x ∈ imgP p Q t, 0 ≤ x ∧ x < p := fun x hx => by
  have hb := zw hp
  obtain ⟨r, _, rfl⟩ := List.mem_map.1 hx
  exact ⟨Int.emod_nonneg _ (by omega), Int.emod_lt_of_pos _ (by omega)⟩
theorem qjd {p : Int} {Q : List (Int × Int × Int)} (hg : genB p Q = true) (t : Int × Int × Int) (ht : inP p t) : Ev (fun k => zt.f k p (basP p Q) t.1 t.2.1 t.2.2) (imgP p Q t) := by
  obtain ⟨hp, h6, _, _⟩ := Qz hg
  have hb := zw hp
  have hl := qcp hp h6 (qbk hg)
  have hrow := fun i hi => qez (Q := Q) hp i hi
  have hend : imgP p Q t = ((basP p Q).map fun r => dotP p r (cubR p t)) := rfl
  generalize imgP p Q t = M at *
  generalize basP p Q = B at *
  have h0 : ∀ (d i : Nat) (acc : List Int), i + d = 4 → acc = (B.take i).map (fun r => dotP p r (cubR p t)) → Ev (fun k => zt.l0 k p B acc (cubR p t) (i : Int)) M := by
    intro d
    induction d with
    | zero =>
      intro i acc hi ha
      rw [List.take_of_length_le (by omega), ← hend] at ha
      subst ha
      exact Ev.step (f := fun _ => some acc) (fun q => by rw [zt.l0, if_neg (by omega)]) (Ev.now _)
    | succ d ih =>
      intro i acc hi ha
      have hal : acc.length ≤ 1000 := by rw [ha, List.length_map, List.length_take]; omega
      have hd := qml hp (B.getD i []) (cubR p t) (hrow i (by omega)) (qke hp t)
      refine Ev.step (fun q => by rw [zt.l0, if_pos (by omega), if_pos (by omega), qag]) ?_
      refine Ev.bind hd (Ev.yes (show acc.length < 17592186044416 by omega) ?_)
      rw [wsm (by omega) (by omega)]
      refine ih (i + 1) _ (by omega) ?_
      rw [ha, List.take_add_one, List.map_append, List.getD_eq_getElem?_getD, List.getElem?_eq_getElem (by omega)]
      rfl
  unfold zt.f
  exact Ev.bind (qb3 (p := p) ⟨by omega, by omega⟩ t ht) (h0 4 0 [] rfl rfl)
theorem qev (p : Int) (l : List S43) (t : Int × Int × Int) : Ev (fun k => zi.f k p l t.1 t.2.1 t.2.2) (qc8 p (tps l) t) := by
  have hlen : (tps l).length = l.length := by simp [tps]
  have hno : ∀ r, r = qc8 p (tps l) t → r = ([], false) → Ev (fun k => zi.j0 k p l true t.1 t.2.1 t.2.2) r := fun r _ h => by
    subst h
    exact Ev.step (f := fun _ => some ([], false)) (fun q => by rw [zi.j0, if_pos rfl]) (Ev.now _)
  unfold zi.f
  refine Ev.bind (Z0 p l) ?_
  cases hg : genB p (tps l) with
  | false =>
    refine Ev.no (by simp) (hno _ rfl ?_)
    rw [qc8, if_neg (by simp [hg])]
  | true =>
    obtain ⟨hp, h6, ha, _⟩ := Qz hg
    refine Ev.yes rfl (Ev.bind (qck p t.1 t.2.1 t.2.2) ?_)
    cases hpt : ptB p t.1 t.2.1 t.2.2 with
    | false =>
      refine hno _ rfl ?_
      rw [qc8, if_neg (by simp [hpt])]
    | true =>
      have ht : inP p t := Jw hpt
      have hl : (imgP p (tps l) t).length = 4 := by rw [imgP, List.length_map, qcp hp h6 (qbk hg)]
      have hi := qjd hg t ht
      have hb := qgl hp l (by omega) fun j hj => Jw ((Zl ha).1 j (by omega))
      have hr := qbe hp (imgP p (tps l) t) (qli hp _ t) (by omega)
      have hz := Jy (imgP p (tps l) t) (by omega)
      rw [qc8]
      generalize imgP p (tps l) t = M at *
      refine Ev.step (fun q => by rw [zi.j0, if_neg (by simp)]) ?_
      refine Ev.bind hb (Ev.bind hi (Ev.bind hz ?_))
      cases hm : M.all (fun x => x == 0) with
      | true =>
        rw [if_neg (by simp)]
        exact Ev.yes rfl (Ev.now _)
      | false =>
        rw [if_pos ⟨⟨hg, hpt⟩, rfl⟩]
        exact Ev.no (by simp) (Ev.bind hr (Ev.now _))
end Go.Proofs.Ytmgbpmihbljngaa.PA
namespace Go.Proofs.Ytmgbpmihbljngaa.PA
open Go.RowKit Go.Proofs.YtmgbpmihbljngaaW.PrintWords Go.Proofs.YtmgbpmihbljngaaW.PrintLast Go.Proofs.YtmgbpmihbljngaaW.PrintMore
set_option linter.unusedVariables false
set_option linter.unusedSimpArgs false
theorem qc5 (l : List Int) (h : ∀ x ∈ l, (Lit.int .u8 x).wf = true) : ∃ p six a, Ev (fun k => je.f k l) (p, six, a) := by
  obtain ⟨b, hb, hok⟩ := qlb l h
  obtain ⟨p, six, s, he, hl, g1, g2, g3, g4⟩ := qlh b hok 0 (by omega) (by omega)
  obtain ⟨x, y, z, s2, hx, g5, g6⟩ := qbg b hok p s (by omega) (by omega) (by omega)
  have hc := qev p six (x, y, z)
  unfold je.f
  generalize qc8 p (tps six) (x, y, z) = I at hc
  obtain ⟨I, ok⟩ := I
  cases ok with
  | false =>
    obtain ⟨a, s3, ha, _, _, _⟩ := qd1 b hok p s2 (by omega) (by omega) (by omega)
    exact ⟨p, six, a, Ev.bind (Ev.k hb) (Ev.bind he (Ev.bind hx (Ev.bind hc (Ev.no (by simp) (Ev.bind ha (Ev.now _))))))⟩
  | true =>
    obtain ⟨v, hv, v0, _⟩ := Q6 b hok s2 2 (by omega) (by omega)
    by_cases e : v = 0
    · exact ⟨p, six, I, Ev.bind (Ev.k hb) (Ev.bind he (Ev.bind hx (Ev.bind hc (Ev.yes rfl (Ev.bind hv (Ev.yes e (Ev.now _)))))))⟩
    · obtain ⟨a, s3, ha, _, _, _⟩ := qd1 b hok p (s2 + 1) (by omega) (by omega) (by omega)
      exact ⟨p, six, a, Ev.bind (Ev.k hb) (Ev.bind he (Ev.bind hx (Ev.bind hc (Ev.yes rfl (Ev.bind hv (Ev.no e (Ev.bind ha (Ev.now _))))))))⟩
end Go.Proofs.Ytmgbpmihbljngaa.PA
namespace Go.Proofs.Ytmgbpmihbljngaa.PA
open Go.RowKit Go.Proofs.YtmgbpmihbljngaaW.PrintWords Go.Proofs.YtmgbpmihbljngaaW.PrintLast Go.Proofs.YtmgbpmihbljngaaW.PrintMore
set_option linter.unusedVariables false
set_option linter.unusedSimpArgs false
theorem qj1 (p x y z : Int) : Zo.f p x y z = some (ptB p x y z) := by
  unfold Zo.f
  have e := qai p [x, y, z] 3
  rw [show ((3 : Nat) : Int) = 3 from rfl] at e
  rw [e, Option.bind_some, ptB]
  cases h : Zx p [x, y, z] 3 <;> rfl
end Go.Proofs.Ytmgbpmihbljngaa.PA
namespace Go.Proofs.Ytmgbpmihbljngaa.PA
open Go.RowKit Go.Proofs.YtmgbpmihbljngaaW.PrintWords Go.Proofs.YtmgbpmihbljngaaW.PrintLast Go.Proofs.YtmgbpmihbljngaaW.PrintMore
set_option linter.unusedVariables false
set_option linter.unusedSimpArgs false
theorem qfz : ∀ p ∈ ([7, 11, 13, 17, 19, 23, 29, 31] : List Int), ∀ x ∈ List.range 31, (x : Int) < p → (x : Int) ≠ 0 → ja.f 40 (x : Int) p = some (invP p (x : Int)) := by decide +kernel
theorem qjo {p : Int} (hp : zk p = true) {x : Int} (h0 : 0 ≤ x) (h1 : x < p) (hx : x ≠ 0) : Ev (fun k => ja.f k x p) (invP p x) := by
  have hb := zw hp
  refine Ev.of (ja.mono x p) (k := 40) ?_
  have h2 := qfz p (by have := Jx hp; simp; omega) x.toNat (by simp; omega) (by omega) (by omega)
  rwa [show ((x.toNat : Nat) : Int) = x by omega] at h2
theorem qav {x p : Int} (hp : 7 ≤ p ∧ p ≤ 31) (h0 : -1000000000 ≤ x) (h1 : x ≤ 1000000000) : modV p (wrap64 x) = x % p := Zh hp h0 h1
theorem qdo {p t : Int} (hp : 7 ≤ p ∧ p ≤ 31) (ht : 0 ≤ t ∧ t < p) (h : List Int) (hh : ∀ x ∈ h, 0 ≤ x ∧ x < p) : ∀ (r : List Int) (i : Nat), (∀ x ∈ r, 0 ≤ x ∧ x < p) → i + r.length = h.length → Zs p t h i r = jm p t (h.drop i) r
  | [], _, _, _ => by simp [Zs, jm]
  | x :: r, i, hr, hl => by
    have hx := hr x (by simp)
    simp only [List.length_cons] at hl
    have hy : 0 ≤ rd h (i : Int) ∧ rd h (i : Int) < p := by rw [Z6 h i (by omega)]; exact hh _ (List.getElem_mem _)
    have hm := qfd hp.2 ht.1 ht.2 hy.1 hy.2
    rw [qg9 h i (by omega), Zs, qdo hp ht h hh r (i + 1) (fun z hz => hr z (by simp [hz])) (by omega), wsm (i := t * rd h (i : Int)) (by omega) (by omega), qav hp (by omega) (by omega)]
    simp [jm]
theorem qi9 {p : Int} {w : Nat} (hp : 7 ≤ p ∧ p ≤ 31) (c : Nat) (hc : c < w) {h r : List Int} (hh : h.length = w ∧ ∀ x ∈ h, 0 ≤ x ∧ x < p) (hr : r.length = w ∧ ∀ x ∈ r, 0 ≤ x ∧ x < p) : Qw p c h r = jm p (rd r (c : Int)) h r := by
  rw [Qw, qdo hp (qdy hr c hc) h hh.2 r 0 hr.2 (by omega), List.drop_zero]
theorem qh2 {p b : Int} {w : Nat} (hp : 7 ≤ p ∧ p ≤ 31) (hb : 0 ≤ b ∧ b < p) {r : List Int} (hr : r.length = w ∧ ∀ x ∈ r, 0 ≤ x ∧ x < p) : jn p b r = Qu p b r := by
  rw [jn, Qu]
  refine List.map_congr_left fun x hx => ?_
  have h1 := hr.2 x hx
  have hm := qfd hp.2 h1.1 h1.2 hb.1 hb.2
  rw [wsm (by omega) (by omega), Int.tmod_eq_emod_of_nonneg hm.1]
theorem qcd {p : Int} (hp : zk p = true) {w : Nat} : ∀ (d c : Nat) (L O : List (List Int)), c + d = w → okR p w L → okR p w O → Ev (fun k => Qp k p d c L O) (redP p d c L O)
  | 0, _, _, O, _, _, _ => Ev.k rfl
  | d + 1, c, L, O, hw, hL, hO => by
    have hb := zw hp
    unfold Qp redP
    cases hf : L.findIdx? (fun row => rd row (c : Int) != 0) with
    | none => exact qcd hp d (c + 1) L O (by omega) hL hO
    | some i =>
      simp only
      obtain ⟨hi, hne⟩ := qc6 hf
      have hx := hL _ (Q3 hi)
      have hxr := qdy hx c (by omega)
      have hne' : rd (L.getD i []) (c : Int) ≠ 0 := by simpa using hne
      have hinv := Ze hp hxr.1 hxr.2
      refine Ev.bind (qjo hp hxr.1 hxr.2 hne') ?_
      have hs := qcq (p := p) (b := invP p (rd (L.getD i []) (c : Int))) (by omega) hx.1
      rw [qh2 hb ⟨hinv.2.1, hinv.2.2.1⟩ hx]
      have e1 : ∀ M : List (List Int), okR p w M → M.map (Qw p c (Qu p (invP p (rd (L.getD i []) (c : Int))) (L.getD i []))) = M.map fun r => jm p (rd r (c : Int)) (Qu p (invP p (rd (L.getD i []) (c : Int))) (L.getD i [])) r :=
        fun M hM => List.map_congr_left fun r hr => qi9 hb c (by omega) hs (hM r hr)
      rw [e1 _ (qbt i hL), e1 _ hO]
      exact qcd hp d (c + 1) _ _ (by omega) (qbh _ (by omega) hs.1 (qbt i hL)) (qg0 (qbh _ (by omega) hs.1 hO) (qie hs (qd9 p w)))
theorem qew {p : Int} (hp : zk p = true) {w : Nat} (L : List (List Int)) (hw : w < 1000000) (hl : L.length < 1000000) (hL : ∀ r ∈ L, r.length = w) : Ev (fun k => jf.f k p L) (redP p w 0 (L.map fun r => r.map (modV p)) []) := by
  have hb := zw hp
  have hok : okR p w (L.map fun r => r.map (modV p)) := fun x hx => by
    obtain ⟨r, hr, rfl⟩ := List.mem_map.1 hx
    refine ⟨by rw [List.length_map, hL r hr], fun y hy => ?_⟩
    obtain ⟨z, _, rfl⟩ := List.mem_map.1 hy
    have h2 := qd7 (p := p) (by omega) z
    rw [modV, wsm (by omega) (by omega), Int.tmod_eq_emod_of_nonneg (by omega)]
    exact ⟨Int.emod_nonneg _ (by omega), Int.emod_lt_of_pos _ (by omega)⟩
  cases L with
  | nil =>
    have e : ∀ d c, redP p d c [] [] = [] := fun d => by
      induction d with
      | zero => intro c; rfl
      | succ d ih => intro c; rw [redP]; exact ih (c + 1)
    rw [List.map_nil, e]
    refine Ev.k (α := List (List Int)) (x := some []) rfl |>.congr fun k => ?_
    rw [jf.f, if_neg (by omega), if_pos ⟨by simp, by simp, by simp⟩]
    simp [Qp]
  | cons r L =>
    have hr := hL r (by simp)
    refine (qcd hp w 0 _ [] (by omega) hok (qd9 p w)).congr fun k => ?_
    rw [jf.f, if_neg (by omega), if_pos ⟨hl, by simpa [hr] using hw, by simpa [hr] using hL⟩]
    simp [hr]
theorem qgn {p x : Int} (hp : zk p = true) (h0 : 0 ≤ x) (h1 : x < p) : modV p x = x := by
  have hb := zw hp
  rw [modV, Int.tmod_eq_of_lt h0 h1, wsm (by omega) (by omega), Int.tmod_eq_emod_of_nonneg (by omega), Int.add_emod_right, Int.emod_eq_of_lt h0 h1]
theorem qjb {p : Int} (hp : zk p = true) {w : Nat} (L : List (List Int)) (hw : w < 1000000) (hl : L.length < 1000000) (hL : okR p w L) : Ev (fun k => jf.f k p L) (redP p w 0 L []) := by
  have h := qew hp L hw hl (fun r hr => (hL r hr).1)
  have e : (L.map fun r => r.map (modV p)) = L := by
    rw [List.map_congr_left (g := id)]
    · simp
    · intro r hr
      rw [List.map_congr_left (g := id)]
      · simp
      · intro x hx; have := (hL r hr).2 x hx; exact qgn hp this.1 this.2
  rwa [e] at h
end Go.Proofs.Ytmgbpmihbljngaa.PA
namespace Go.Proofs.Ytmgbpmihbljngaa.PA
open Go.RowKit Go.Proofs.YtmgbpmihbljngaaW.PrintWords Go.Proofs.YtmgbpmihbljngaaW.PrintLast Go.Proofs.YtmgbpmihbljngaaW.PrintMore
set_option linter.unusedVariables false
set_option linter.unusedSimpArgs false
def crsI (a b : Int × Int × Int) : List Int := [a.2.1 * b.2.2 - a.2.2 * b.2.1, a.2.2 * b.1 - a.1 * b.2.2, a.1 * b.2.1 - a.2.1 * b.1]
theorem ql5 {p : Int} (hp : 7 ≤ p ∧ p ≤ 31) (a b : Int × Int × Int) (ha : inP p a) (hb : inP p b) : Qk.f a.1 a.2.1 a.2.2 b.1 b.2.1 b.2.2 = some (crsI a b) := by
  obtain ⟨a0, a1, a2⟩ := ha
  obtain ⟨b0, b1, b2⟩ := hb
  have m1 := Qb hp a1 b2
  have m2 := Qb hp a2 b1
  have m3 := Qb hp a2 b0
  have m4 := Qb hp a0 b2
  have m5 := Qb hp a0 b1
  have m6 := Qb hp a1 b0
  unfold Qk.f
  rw [wsm (i := a.2.1 * b.2.2) (by omega) (by omega), wsm (i := a.2.2 * b.2.1) (by omega) (by omega), wsm (i := a.2.2 * b.1) (by omega) (by omega), wsm (i := a.1 * b.2.2) (by omega) (by omega), wsm (i := a.1 * b.2.1) (by omega) (by omega), wsm (i := a.2.1 * b.1) (by omega) (by omega),
    wsm (by omega) (by omega), wsm (by omega) (by omega), wsm (by omega) (by omega)]
  rfl
theorem qg2 {p u y : Int} (hp : 7 ≤ p ∧ p ≤ 31) (hu : -900 ≤ u ∧ u ≤ 900) (hy : 0 ≤ y ∧ y < p) : -30000 ≤ u * y ∧ u * y ≤ 30000 := by
  obtain ⟨y0, y1⟩ := hy
  have h1 : u * y ≤ 900 * y := Int.mul_le_mul_of_nonneg_right hu.2 y0
  have h2 : -900 * y ≤ u * y := Int.mul_le_mul_of_nonneg_right hu.1 y0
  omega
theorem ql3 {p : Int} (hp : 7 ≤ p ∧ p ≤ 31) (a b c : Int × Int × Int) (ha : inP p a) (hb : inP p b) (hc : inP p c) : Ev (fun k => jz.f k p (crsI a b) [c.1, c.2.1, c.2.2]) (((a.2.1 * b.2.2 - a.2.2 * b.2.1) * c.1 + (a.2.2 * b.1 - a.1 * b.2.2) * c.2.1 + (a.1 * b.2.1 - a.2.1 * b.1) * c.2.2) % p) := by
  obtain ⟨a0, a1, a2⟩ := ha
  obtain ⟨b0, b1, b2⟩ := hb
  obtain ⟨c0, c1, c2⟩ := hc
  have m1 := Qb hp a1 b2
  have m2 := Qb hp a2 b1
  have m3 := Qb hp a2 b0
  have m4 := Qb hp a0 b2
  have m5 := Qb hp a0 b1
  have m6 := Qb hp a1 b0
  have d1 := qg2 hp (u := a.2.1 * b.2.2 - a.2.2 * b.2.1) (by omega) c0
  have d2 := qg2 hp (u := a.2.2 * b.1 - a.1 * b.2.2) (by omega) c1
  have d3 := qg2 hp (u := a.1 * b.2.1 - a.2.1 * b.1) (by omega) c2
  unfold jz.f crsI
  generalize a.2.1 * b.2.2 - a.2.2 * b.2.1 = u0 at *
  generalize a.2.2 * b.1 - a.1 * b.2.2 = u1 at *
  generalize a.1 * b.2.1 - a.2.1 * b.1 = u2 at *
  have e : modV p (u0 * c.1 + u1 * c.2.1 + u2 * c.2.2) = (u0 * c.1 + u1 * c.2.1 + u2 * c.2.2) % p := by
    have := qav (p := p) (x := u0 * c.1 + u1 * c.2.1 + u2 * c.2.2) hp (by omega) (by omega)
    rwa [wsm (by omega) (by omega)] at this
  refine Ev.step (fun q => by rw [jz.l0, if_pos (by simp), if_pos (by omega), if_pos (by simp), if_pos (by simp)]) ?_
  refine Ev.step (fun q => by rw [jz.l0, if_pos (by simp [wrap64]), if_pos (by simp [wrap64]), if_pos (by simp [wrap64]), if_pos (by simp [wrap64])]) ?_
  refine Ev.step (fun q => by rw [jz.l0, if_pos (by simp [wrap64]), if_pos (by simp [wrap64]), if_pos (by simp [wrap64]), if_pos (by simp [wrap64])]) ?_
  refine Ev.step (f := fun _ => some ((u0 * c.1 + u1 * c.2.1 + u2 * c.2.2) % p)) (fun q => ?_) (Ev.now _)
  rw [jz.l0, if_neg (by simp [wrap64])]
  have f0 : wrap64 (0 + 1) = 1 := by rw [wsm (by omega) (by omega)]; rfl
  have f1 : wrap64 (1 + 1) = 2 := by rw [wsm (by omega) (by omega)]; rfl
  have g0 : rd [u0, u1, u2] 0 = u0 := rfl
  have g1 : rd [u0, u1, u2] 1 = u1 := rfl
  have g2 : rd [u0, u1, u2] 2 = u2 := rfl
  have k0 : rd [c.1, c.2.1, c.2.2] 0 = c.1 := rfl
  have k1 : rd [c.1, c.2.1, c.2.2] 1 = c.2.1 := rfl
  have k2 : rd [c.1, c.2.1, c.2.2] 2 = c.2.2 := rfl
  rw [f0, f1, g0, g1, g2, k0, k1, k2, wsm (i := u0 * c.1) (by omega) (by omega), wsm (i := u1 * c.2.1) (by omega) (by omega), wsm (i := u2 * c.2.2) (by omega) (by omega), wsm (i := 0 + u0 * c.1) (by omega) (by omega), wsm (i := 0 + u0 * c.1 + u1 * c.2.1) (by omega) (by omega), wsm (by omega) (by omega), Int.zero_add, qj8 p _ (by omega), e]
  rfl
theorem qo2 (p : Int) (a b c : Int × Int × Int) : ((((a.2.1 * b.2.2 - a.2.2 * b.2.1) * c.1 + (a.2.2 * b.1 - a.1 * b.2.2) * c.2.1 + (a.1 * b.2.1 - a.2.1 * b.1) * c.2.2) % p = 0) ↔ colB p b c a = true) := by
  rw [colB, beq_iff_eq]
  have e : (a.2.1 * b.2.2 - a.2.2 * b.2.1) * c.1 + (a.2.2 * b.1 - a.1 * b.2.2) * c.2.1 + (a.1 * b.2.1 - a.2.1 * b.1) * c.2.2 = a.1 * (b.2.1 * c.2.2 - b.2.2 * c.2.1) + a.2.1 * (b.2.2 * c.1 - b.1 * c.2.2) + a.2.2 * (b.1 * c.2.1 - b.2.1 * c.1) := by grind
  rw [e]
end Go.Proofs.Ytmgbpmihbljngaa.PA
namespace Go.Proofs.Ytmgbpmihbljngaa.PA
open Go.RowKit Go.Proofs.YtmgbpmihbljngaaW.PrintWords Go.Proofs.YtmgbpmihbljngaaW.PrintLast Go.Proofs.YtmgbpmihbljngaaW.PrintMore
set_option linter.unusedVariables false
set_option linter.unusedSimpArgs false
theorem qak (f : Nat → Bool) (d i : Nat) : allN f (d + 1) i = (f i && allN f d (i + 1)) := rfl
theorem qhv {p : Int} (l : List S43) (hl : l.length ≤ 1000000) : Ev (fun k => jc.f k p l) (Jt p (tps l)) := by
  have hlen : (tps l).length = l.length := by simp [tps]
  have e1 : ∀ m : Nat, m < l.length → (qd l (m : Int)).f0.f0 = ((tps l).getD m (0, 0, 0)).1 ∧ (qd l (m : Int)).f0.f1 = ((tps l).getD m (0, 0, 0)).2.1 ∧ (qd l (m : Int)).f0.f2 = ((tps l).getD m (0, 0, 0)).2.2 := fun m hm => by rw [← qbq l m hm]; exact ⟨rfl, rfl, rfl⟩
  have h2 : ∀ (i j : Nat), i < l.length → j < i → zk p = true → (∀ m, m ≤ i → inP p ((tps l).getD m (0, 0, 0))) → ∀ (d m : Nat), m + d = j → Ev (fun k => ap2 k p l i j d m) (!allN (fun m => !colB p ((tps l).getD j (0, 0, 0)) ((tps l).getD m (0, 0, 0)) ((tps l).getD i (0, 0, 0))) d m) := by
    intro i j hi hj hp hin d
    have hb := zw hp
    induction d with
    | zero => intro m _; exact Ev.now _
    | succ d ih =>
      intro m hm
      obtain ⟨a1, a2, a3⟩ := e1 i hi
      obtain ⟨b1, b2, b3⟩ := e1 j (by omega)
      obtain ⟨c1, c2, c3⟩ := e1 m (by omega)
      have hd := ql3 (p := p) ⟨by omega, by omega⟩ _ _ _ (hin i (by omega)) (hin j (by omega)) (hin m (by omega))
      have hc := qo2 p ((tps l).getD i (0, 0, 0)) ((tps l).getD j (0, 0, 0)) ((tps l).getD m (0, 0, 0))
      refine Ev.congr (fun k => by rw [ap2, a1, a2, a3, b1, b2, b3, c1, c2, c3, ql5 (p := p) ⟨by omega, by omega⟩ _ _ (hin i (by omega)) (hin j (by omega)), Option.bind_some]) ?_
      refine Ev.bind hd ?_
      rw [qak]
      cases h : colB p ((tps l).getD j (0, 0, 0)) ((tps l).getD m (0, 0, 0)) ((tps l).getD i (0, 0, 0)) with
      | true => exact Ev.yes (hc.2 h) (Ev.now _)
      | false =>
        refine Ev.no (fun e => by rw [hc.1 e] at h; cases h) ?_
        have := ih (m + 1) (by omega)
        simpa using this
  have h1 : ∀ (i : Nat), i < l.length → zk p = true → (∀ m, m ≤ i → inP p ((tps l).getD m (0, 0, 0))) → ∀ (d j : Nat), j + d = i → Ev (fun k => ap1 k p l i d j) (!allN (fun k => allN (fun j => !colB p ((tps l).getD k (0, 0, 0)) ((tps l).getD j (0, 0, 0)) ((tps l).getD i (0, 0, 0))) k 0) d j) := by
    intro i hi hp hin d
    induction d with
    | zero => intro j _; exact Ev.now _
    | succ d ih =>
      intro j hj
      refine Ev.congr (fun k => by rw [ap1]) ?_
      refine Ev.bind (h2 i j hi (by omega) hp hin j 0 (by omega)) ?_
      rw [qak]
      cases h : allN (fun m => !colB p ((tps l).getD j (0, 0, 0)) ((tps l).getD m (0, 0, 0)) ((tps l).getD i (0, 0, 0))) j 0 with
      | false => exact Ev.yes rfl (Ev.now _)
      | true =>
        refine Ev.no (by simp) ?_
        have := ih (j + 1) (by omega)
        simpa using this
  have h0 : ∀ (d i : Nat), i + d = l.length → (∀ m, m < i → inP p ((tps l).getD m (0, 0, 0))) → Ev (fun k => ap0 k p l d i) (allN (apI p (tps l)) d i) := by
    intro d
    induction d with
    | zero => intro i _ _; exact Ev.now _
    | succ d ih =>
      intro i hi hin
      obtain ⟨a1, a2, a3⟩ := e1 i (by omega)
      refine Ev.congr (fun k => by rw [ap0, a1, a2, a3, qj1, Option.bind_some]) ?_
      rw [qak, apI]
      cases hpt : ptB p ((tps l).getD i (0, 0, 0)).1 ((tps l).getD i (0, 0, 0)).2.1 ((tps l).getD i (0, 0, 0)).2.2 with
      | false => exact Ev.no (by simp) (Ev.now _)
      | true =>
        have hp : zk p = true := by
          rw [ptB, Bool.and_eq_true] at hpt
          exact (Qo hpt.1).1
        have hin' : ∀ m, m ≤ i → inP p ((tps l).getD m (0, 0, 0)) := fun m hm => by
          by_cases e : m = i
          · subst e; exact Jw hpt
          · exact hin m (by omega)
        refine Ev.yes rfl (Ev.bind (h1 i (by omega) hp hin' i 0 (by omega)) ?_)
        cases h : allN (fun k => allN (fun j => !colB p ((tps l).getD k (0, 0, 0)) ((tps l).getD j (0, 0, 0)) ((tps l).getD i (0, 0, 0))) k 0) i 0 with
        | false => exact Ev.yes rfl (Ev.now _)
        | true =>
          refine Ev.no (by simp) ?_
          have := ih (i + 1) (by omega) fun m hm => hin' m (by omega)
          simpa using this
  unfold jc.f
  refine Ev.yes hl ?_
  rw [Jt, hlen]
  exact h0 l.length 0 (by omega) (fun m hm => by omega)
end Go.Proofs.Ytmgbpmihbljngaa.PA
namespace Go.Proofs.Ytmgbpmihbljngaa.PA
open Go.RowKit Go.Proofs.YtmgbpmihbljngaaW.PrintWords Go.Proofs.YtmgbpmihbljngaaW.PrintLast Go.Proofs.YtmgbpmihbljngaaW.PrintMore
set_option linter.unusedVariables false
set_option linter.unusedSimpArgs false
theorem qfb (l : List Int) (v : Int) (hlen : l.length ≤ 1000000) (h : Nat) (hl : h < l.length) (hv : rd l (h : Int) = v) (hn : ∀ j : Nat, j < h → rd l (j : Int) ≠ v) : ∀ (d i : Nat), i + d = h → Ev (fun k => qk.l0 k l v (l.length : Int) (i : Int)) (h : Int)
  | 0, i, e => by
    obtain rfl : i = h := by omega
    refine Ev.step (f := fun _ => some (i : Int)) (fun k => ?_) (Ev.now _)
    rw [qk.l0, if_pos (by omega), if_pos (by omega), if_pos (by omega), if_pos hv.symm]
  | d + 1, i, e => by
    refine Ev.step (f := fun k => qk.l0 k l v (l.length : Int) ((i + 1 : Nat) : Int)) (fun k => ?_) (qfb l v hlen h hl hv hn d (i + 1) (by omega))
    rw [qk.l0, if_pos (by omega), if_pos (by omega), if_pos (by omega), if_neg (fun e2 => hn i (by omega) e2.symm), wsm (by omega) (by omega)]; rfl
theorem qe3 (l : List Int) (v : Int) (hlen : l.length ≤ 1000000) (hn : ∀ j : Nat, j < l.length → rd l (j : Int) ≠ v) : ∀ (d i : Nat), i + d = l.length → Ev (fun k => qk.l0 k l v (l.length : Int) (i : Int)) (-1)
  | 0, i, e => by
    refine Ev.step (f := fun _ => some (-1)) (fun k => ?_) (Ev.now _)
    rw [qk.l0, if_neg (by omega)]
  | d + 1, i, e => by
    refine Ev.step (f := fun k => qk.l0 k l v (l.length : Int) ((i + 1 : Nat) : Int)) (fun k => ?_) (qe3 l v hlen hn d (i + 1) (by omega))
    rw [qk.l0, if_pos (by omega), if_pos (by omega), if_pos (by omega), if_neg (fun e2 => hn i (by omega) e2.symm), wsm (by omega) (by omega)]; rfl
theorem qm9 (l : List Int) (v : Int) (hlen : l.length ≤ 1000000) {h : Nat} (hl : h < l.length) (hv : rd l (h : Int) = v) (hn : ∀ j : Nat, j < h → rd l (j : Int) ≠ v) : Ev (fun k => qk.f k l v) (h : Int) := by
  unfold qk.f
  exact qfb l v hlen h hl hv hn h 0 (by omega)
theorem qht (l : List Int) (v : Int) : ∀ n : Nat, n ≤ l.length → (∃ h : Nat, h < n ∧ rd l (h : Int) = v ∧ ∀ j : Nat, j < h → rd l (j : Int) ≠ v) ∨ ∀ j : Nat, j < n → rd l (j : Int) ≠ v
  | 0, _ => .inr fun j hj => absurd hj (by omega)
  | n + 1, hn => by
    rcases qht l v n (by omega) with ⟨h, h1, h2, h3⟩ | h
    · exact .inl ⟨h, by omega, h2, h3⟩
    · by_cases e : rd l (n : Int) = v
      · exact .inl ⟨n, by omega, e, h⟩
      · refine .inr fun j hj => ?_
        rcases Nat.lt_succ_iff_lt_or_eq.1 hj with h1 | h1
        · exact h j h1
        · rw [h1]; exact e
theorem qir (l : List Int) (v : Int) (hlen : l.length ≤ 1000000) : Ev (fun k => q7.f k l v) (decide (v ∈ l)) := by
  unfold q7.f qk.f
  rcases qht l v l.length (by omega) with ⟨h, h1, h2, h3⟩ | h
  · have hm : v ∈ l := by rw [← h2, Z6 l h h1]; exact List.getElem_mem _
    refine Ev.bind (qfb l v hlen h h1 h2 h3 h 0 (by omega)) ?_
    rw [decide_eq_true (show (h : Int) ≥ 0 by omega), decide_eq_true hm]; exact Ev.now _
  · have hm : ¬ v ∈ l := fun hm => by
      obtain ⟨j, hj, e⟩ := List.mem_iff_getElem.1 hm
      exact h j hj (by rw [Z6 l j hj]; exact e)
    refine Ev.bind (qe3 l v hlen h l.length 0 (by omega)) ?_
    rw [decide_eq_false (show ¬ (-1 : Int) ≥ 0 by omega), decide_eq_false hm]; exact Ev.now _
end Go.Proofs.Ytmgbpmihbljngaa.PA
namespace Go.Proofs.Ytmgbpmihbljngaa.PA
open Go.RowKit Go.Proofs.YtmgbpmihbljngaaW.PrintWords Go.Proofs.YtmgbpmihbljngaaW.PrintLast Go.Proofs.YtmgbpmihbljngaaW.PrintMore
set_option linter.unusedVariables false
set_option linter.unusedSimpArgs false
theorem qoe {p : Int} (hp : zk p = true) {x : Int} (h0 : 0 ≤ x) (h1 : x < p) : Zv.f (wrap64 (-x)) p = some ((-x) % p) := by
  have hb := zw hp
  rw [qj8 p _ (by omega), qav ⟨by omega, by omega⟩ (by omega) (by omega)]
theorem qfi (P : List (Nat × List Int)) (i : Nat) (hi : i < P.length) : zz (P.map Prod.snd) (i : Int) = (P[i]).2 := by
  simp [zz, List.getD_eq_getElem?_getD, hi]
theorem qi7 (P : List (Nat × List Int)) (i : Nat) (hi : i < P.length) : rd (P.map fun x => (x.1 : Int)) (i : Int) = ((P[i]).1 : Int) := by
  simp [rd, List.getD_eq_getElem?_getD, hi]
theorem qff {p : Int} {w : Nat} {P : List (Nat × List Int)} (h : Rref p w P) : P.length ≤ w := by
  have h1 := Q7 (P := P) (Q := (List.range w).map fun c => (c, ([] : List Int))) h.inc (by rw [List.pairwise_map]; exact List.pairwise_lt_range) (fun x hx => ⟨(x.1, []), List.mem_map.2 ⟨x.1, by simpa using h.lt x hx, rfl⟩, rfl⟩)
  simpa using h1
theorem qjk {P : List (Nat × List Int)} (c : Nat) : decide ((c : Int) ∈ P.map fun x => (x.1 : Int)) = !j4 P c := by
  rw [j4, Bool.not_not, Bool.eq_iff_iff, decide_eq_true_iff, List.any_eq_true]
  constructor
  · intro h
    obtain ⟨x, hx, e⟩ := List.mem_map.1 h
    exact ⟨x, hx, by have : x.1 = c := by omega
                     simp [this]⟩
  · rintro ⟨x, hx, e⟩
    exact List.mem_map.2 ⟨x, hx, by have : x.1 = c := by simpa using e
                                    omega⟩
theorem qf8 {p : Int} {w : Nat} (hw : w ≤ 1000) {P : List (Nat × List Int)} (h : Rref p w P) {R : List (List Int)} (hend : Ev (fun k => qh.l1 k p (w : Int) (P.map Prod.snd) (P.map fun x => (x.1 : Int)) [] (w : Int) 0) R) : ∀ (d i : Nat), i + d = P.length →
    Ev (fun k => qh.l0 k p (w : Int) (P.map Prod.snd) ((P.map fun x => (x.1 : Int)).take i) (P.map Prod.snd) ((P.map Prod.snd).length : Int) (i : Int)) R
  | 0, i, e => by
    refine Ev.step (f := fun k => qh.l1 k p (w : Int) (P.map Prod.snd) (P.map fun x => (x.1 : Int)) [] (w : Int) 0) (fun k => ?_) hend
    rw [qh.l0, if_neg (by rw [List.length_map]; omega), List.take_of_length_le (by rw [List.length_map]; omega)]
  | d + 1, i, e => by
    have hi : i < P.length := by omega
    have hle := qff h
    have ih := qf8 hw h hend d (i + 1) (by omega)
    have hm := List.getElem_mem hi
    refine Ev.step (fun k => by rw [qh.l0, if_pos (by rw [List.length_map]; omega), if_pos (by omega), if_pos (by rw [List.length_map]; omega), qfi P i hi]) ?_
    have hlen := (h.ok _ hm).1
    refine Ev.bind (qm9 (P[i]).2 1 (by omega) (h := (P[i]).1) (by rw [hlen]; exact h.lt _ hm) (h.one _ hm) (fun j hj => by
      have := h.low _ hm j hj
      rw [fn] at this; rw [this]; decide)) (Ev.yes (by simp; omega) ?_)
    rw [wsm (by omega) (by omega), show ((P.map fun x => (x.1 : Int)).take i) ++ [((P[i]).1 : Int)] = (P.map fun x => (x.1 : Int)).take (i + 1) by
      rw [List.take_add_one, List.getElem?_map, List.getElem?_eq_getElem hi]; rfl]
    exact ih
theorem qku {p : Int} (hp : zk p = true) {w : Nat} (hw : w ≤ 1000) {P : List (Nat × List Int)} (h : Rref p w P) {c : Nat} (hc : c < w) {O : List (List Int)} (hO : O.length ≤ 1000) {R : List (List Int)} : ∀ (d i : Nat) (v V : List Int), i + d = P.length → v.length = w → Q2 p c (P.drop i) v = V →
    Ev (fun k => qh.l1 k p (w : Int) (P.map Prod.snd) (P.map fun x => (x.1 : Int)) (O ++ [V]) (w : Int) ((c + 1 : Nat) : Int)) R →
    Ev (fun k => qh.l2 k p (w : Int) (P.map Prod.snd) (P.map fun x => (x.1 : Int)) O (c : Int) v (w : Int) (c : Int) (P.map Prod.snd) ((P.map Prod.snd).length : Int) (i : Int)) R
  | 0, i, v, V, e, hv, hV, hend => by
    rw [List.drop_eq_nil_of_le (by omega), Q2] at hV
    subst hV
    refine Ev.step (fun k => by rw [qh.l2, if_neg (by rw [List.length_map]; omega), if_pos (by omega), wsm (by omega) (by omega)]) ?_
    simpa using hend
  | d + 1, i, v, V, e, hv, hV, hend => by
    have hi : i < P.length := by omega
    have hle := qff h
    have hm := List.getElem_mem hi
    have hlen := (h.ok _ hm).1
    have hlt := h.lt _ hm
    have hr := Jn (h.ok _ hm) c hc
    rw [fn] at hr
    rw [List.drop_eq_getElem_cons hi, Q2] at hV
    refine Ev.step (fun k => by rw [qh.l2, if_pos (by rw [List.length_map]; omega), if_pos (by omega), if_pos (by rw [List.length_map]; omega), if_pos (by rw [List.length_map]; omega), if_pos (by omega), qfi P i hi, if_pos (by omega), qi7 P i hi, qoe hp hr.1 hr.2]) ?_
    refine Ev.bind (a := (-(rd (P[i]).2 (c : Int))) % p) (Ev.now _) (Ev.yes (by omega) (Ev.yes (by omega) ?_))
    have ih := qku hp hw h hc hO d (i + 1) (v.set (P[i]).1 ((-(rd (P[i]).2 (c : Int))) % p)) V (by omega) (by rw [List.length_set]; exact hv) hV hend
    rw [wsm (by omega) (by omega)]
    simpa using ih
theorem qfm {p : Int} (hp : zk p = true) {w : Nat} (hw : w ≤ 1000) {P : List (Nat × List Int)} (h : Rref p w P) : ∀ (d c : Nat) (O : List (List Int)), c + d = w → O = (((List.range c).filter (j4 P)).map (Qn p w P)) →
    Ev (fun k => qh.l1 k p (w : Int) (P.map Prod.snd) (P.map fun x => (x.1 : Int)) O (w : Int) (c : Int)) (redP p w 0 (Zk p w P) [])
  | 0, c, O, e, hO => by
    obtain rfl : c = w := by omega
    have hb := zw hp
    refine Ev.step (fun k => by rw [qh.l1, if_neg (by omega)]) ?_
    have hlen : O.length < 1000000 := by
      rw [hO, List.length_map]
      have := List.length_filter_le (j4 P) (List.range c)
      simp at this; omega
    have hok := qae (p := p) (by omega) h
    subst hO
    exact Ev.bind (qjb hp (w := c) _ (by omega) hlen hok) (Ev.now _)
  | d + 1, c, O, e, hO => by
    have hle := qff h
    have hOl : O.length ≤ 1000 := by
      rw [hO, List.length_map]
      have := List.length_filter_le (j4 P) (List.range c)
      simp at this; omega
    have hsucc : (List.range (c + 1)).filter (j4 P) = (List.range c).filter (j4 P) ++ (if j4 P c = true then [c] else []) := by
      rw [List.range_succ, List.filter_append]
      congr 1
      cases hf : j4 P c <;> simp [hf]
    refine Ev.step (fun k => by rw [qh.l1, if_pos (by omega)]) ?_
    refine Ev.bind (qir _ (c : Int) (by rw [List.length_map]; omega)) ?_
    rw [qjk]
    cases hf : j4 P c with
    | false =>
      refine Ev.yes rfl ?_
      rw [wsm (by omega) (by omega)]
      exact qfm hp hw h d (c + 1) O (by omega) (by rw [hsucc, hf, hO]; simp)
    | true =>
      refine Ev.no (by simp) (Ev.yes (by omega) (Ev.yes (by omega) (Ev.bind (a := List.replicate w 0) (by simpa using Ev.now (List.replicate w (0 : Int))) (Ev.yes (by omega) (Ev.yes (by simp; omega) ?_)))))
      have hend := qfm hp hw h d (c + 1) (O ++ [Qn p w P c]) (by omega) (by rw [hsucc, hf, hO]; simp)
      have := qku hp hw h (c := c) (by omega) hOl (R := redP p w 0 (Zk p w P) []) P.length 0 ((List.replicate w 0).set c 1) (Qn p w P c) (by omega) (by simp) (by rw [List.drop_zero]; rfl) hend
      simpa using this
theorem qaj {p : Int} (hp : zk p = true) {w : Nat} (hw : w ≤ 1000) (L : List (List Int)) (hl : L.length < 1000000) (hL : ∀ r ∈ L, r.length = w) : Ev (fun k => qh.f k p L (w : Int)) (Qt p w (L.map fun r => r.map (modV p))) := by
  have hb := zw hp
  have hok : okR p w (L.map fun r => r.map (modV p)) := fun x hx => by
    obtain ⟨r, hr, rfl⟩ := List.mem_map.1 hx
    refine ⟨by rw [List.length_map, hL r hr], fun y hy => ?_⟩
    obtain ⟨z, _, rfl⟩ := List.mem_map.1 hy
    have h2 := qd7 (p := p) (by omega) z
    rw [modV, wsm (by omega) (by omega), Int.tmod_eq_emod_of_nonneg (by omega)]
    exact ⟨Int.emod_nonneg _ (by omega), Int.emod_lt_of_pos _ (by omega)⟩
  obtain ⟨e1, _, hP, _, _⟩ := qab hp hok
  unfold qh.f
  refine Ev.bind (qew hp L (by omega) hl hL) ?_
  rw [e1]
  have h := qf8 (p := p) hw hP (qfm hp hw hP w 0 [] (by omega) (by simp)) (Js p w (L.map fun r => r.map (modV p))).length 0 (by omega)
  simpa [Qt] using h
theorem qhm {p : Int} (hp : zk p = true) {w : Nat} (hw : w ≤ 1000) (L : List (List Int)) (hl : L.length < 1000000) (hL : okR p w L) : Ev (fun k => qh.f k p L (w : Int)) (Qt p w L) := by
  have h := qaj hp hw L hl (fun r hr => (hL r hr).1)
  have e : (L.map fun r => r.map (modV p)) = L := by
    rw [List.map_congr_left (g := id)]
    · simp
    · intro r hr
      rw [List.map_congr_left (g := id)]
      · simp
      · intro x hx; have := (hL r hr).2 x hx; exact qgn hp this.1 this.2
  rwa [e] at h
end Go.Proofs.Ytmgbpmihbljngaa.PA
namespace Go.Proofs.Ytmgbpmihbljngaa.PA
open Go.RowKit Go.Proofs.YtmgbpmihbljngaaW.PrintWords Go.Proofs.YtmgbpmihbljngaaW.PrintLast Go.Proofs.YtmgbpmihbljngaaW.PrintMore
set_option linter.unusedVariables false
set_option linter.unusedSimpArgs false
def sqI (t : Int × Int × Int) : List Int := [t.1 * t.1, t.1 * t.2.1, t.1 * t.2.2, t.2.1 * t.2.1, t.2.1 * t.2.2, t.2.2 * t.2.2]
theorem Jh {p x : Int} (hp : 7 ≤ p ∧ p ≤ 31) (h0 : -1000000000 ≤ x) (h1 : x ≤ 1000000000) : modV p x = x % p := by
  have := qav hp h0 h1
  rwa [wsm (by omega) (by omega)] at this
theorem qo6 {p : Int} (hp : 7 ≤ p ∧ p ≤ 31) {t : Int × Int × Int} (ht : inP p t) : (sqI t).map (modV p) = sqR p t := by
  obtain ⟨a0, a1, a2⟩ := ht
  have m1 := Qb hp a0 a0
  have m2 := Qb hp a0 a1
  have m3 := Qb hp a0 a2
  have m4 := Qb hp a1 a1
  have m5 := Qb hp a1 a2
  have m6 := Qb hp a2 a2
  simp only [sqI, sqR, List.map_cons, List.map_nil]
  rw [Jh hp (by omega) (by omega), Jh hp (by omega) (by omega), Jh hp (by omega) (by omega), Jh hp (by omega) (by omega), Jh hp (by omega) (by omega), Jh hp (by omega) (by omega)]
theorem qju {p : Int} (hp : 7 ≤ p ∧ p ≤ 31) (l : List S43) (hl : l.length ≤ 1000) (hin : ∀ j, j < l.length → inP p ((tps l).getD j (0, 0, 0))) : Ev (fun k => zx.f k l) ((tps l).map sqI) := by
  have hlen : (tps l).length = l.length := by simp [tps]
  have h0 : ∀ (d i : Nat) (acc : List (List Int)), i + d = l.length → acc = ((tps l).take i).map sqI → Ev (fun q => zx.l0 q acc l (l.length : Int) (i : Int)) ((tps l).map sqI) := by
    intro d
    induction d with
    | zero =>
      intro i acc hi ha
      rw [List.take_of_length_le (by omega)] at ha
      subst ha
      exact Ev.step (f := fun _ => some ((tps l).map sqI)) (fun q => by rw [zx.l0, if_neg (by omega)]) (Ev.now _)
    | succ d ih =>
      intro i acc hi ha
      have hil : i < l.length := by omega
      have hal : acc.length ≤ 1000 := by rw [ha, List.length_map, List.length_take]; omega
      have e := qbq l i hil
      obtain ⟨a0, a1, a2⟩ := hin i hil
      have f0 : (qd l (i : Int)).f0.f0 = ((tps l).getD i (0, 0, 0)).1 := by rw [← e]; rfl
      have f1 : (qd l (i : Int)).f0.f1 = ((tps l).getD i (0, 0, 0)).2.1 := by rw [← e]; rfl
      have f2 : (qd l (i : Int)).f0.f2 = ((tps l).getD i (0, 0, 0)).2.2 := by rw [← e]; rfl
      have m1 := Qb hp a0 a0
      have m2 := Qb hp a0 a1
      have m3 := Qb hp a0 a2
      have m4 := Qb hp a1 a1
      have m5 := Qb hp a1 a2
      have m6 := Qb hp a2 a2
      refine Ev.step (fun q => by rw [zx.l0, if_pos (by omega), if_pos (by omega), if_pos (by omega), if_pos (by omega), f0, f1, f2, wsm (i := ((tps l).getD i (0, 0, 0)).1 * ((tps l).getD i (0, 0, 0)).1) (by omega) (by omega), wsm (i := ((tps l).getD i (0, 0, 0)).1 * ((tps l).getD i (0, 0, 0)).2.1) (by omega) (by omega), wsm (i := ((tps l).getD i (0, 0, 0)).1 * ((tps l).getD i (0, 0, 0)).2.2) (by omega) (by omega), wsm (i := ((tps l).getD i (0, 0, 0)).2.1 * ((tps l).getD i (0, 0, 0)).2.1) (by omega) (by omega), wsm (i := ((tps l).getD i (0, 0, 0)).2.1 * ((tps l).getD i (0, 0, 0)).2.2) (by omega) (by omega), wsm (i := ((tps l).getD i (0, 0, 0)).2.2 * ((tps l).getD i (0, 0, 0)).2.2) (by omega) (by omega), wsm (by omega) (by omega)]) ?_
      refine ih (i + 1) _ (by omega) ?_
      rw [ha, List.take_add_one, List.map_append, List.getD_eq_getElem?_getD, List.getElem?_eq_getElem (by omega)]
      rfl
  unfold zx.f
  exact h0 l.length 0 [] (by omega) (by simp)
theorem qb5 (p : Int) (l : List S43) : Ev (fun k => z8.f k p l) (genB p (tps l)) := by
  have hlen : (tps l).length = l.length := by simp [tps]
  unfold z8.f
  by_cases h6 : l.length = 6
  · refine Ev.yes (by omega) ?_
    rw [genB, hlen, decide_eq_true h6, Bool.true_and]
    refine Ev.bind (qhv l (by omega)) ?_
    cases ha : Jt p (tps l) with
    | false => exact Ev.no (by simp) (Ev.now _)
    | true =>
      have hp : zk p = true := by
        cases hp : zk p with
        | true => rfl
        | false => rw [qda hp _ (by omega)] at ha; cases ha
      have hb := zw hp
      have hin : ∀ j, j < l.length → inP p ((tps l).getD j (0, 0, 0)) := fun j hj => Jw ((Zl ha).1 j (by omega))
      have hs := qaj hp (w := 6) (by omega) ((tps l).map sqI) (by rw [List.length_map]; omega) (fun r hr => by obtain ⟨t, _, rfl⟩ := List.mem_map.1 hr; rfl)
      have e : (((tps l).map sqI).map fun r => r.map (modV p)) = (tps l).map (sqR p) := by
        rw [List.map_map]
        refine List.map_congr_left fun t ht => ?_
        obtain ⟨j, hj, rfl⟩ := List.getElem_of_mem ht
        have := hin j (by omega)
        rw [List.getD_eq_getElem?_getD, List.getElem?_eq_getElem hj] at this
        exact qo6 ⟨by omega, by omega⟩ this
      rw [e] at hs
      refine Ev.yes rfl (Ev.bind (qju (p := p) ⟨by omega, by omega⟩ l (by omega) hin) (Ev.bind hs ?_))
      have e2 : (((Qt p 6 ((tps l).map (sqR p))).length : Int) == 0) = (true && (Qt p 6 ((tps l).map (sqR p))).isEmpty) := by
        cases Qt p 6 ((tps l).map (sqR p)) with
        | nil => rfl
        | cons a b => simp; omega
      rw [e2]
      exact Ev.now _
  · refine Ev.no (by omega) ?_
    rw [genB, hlen, decide_eq_false h6]
    exact Ev.now _
end Go.Proofs.Ytmgbpmihbljngaa.PA
namespace Go.Proofs.Ytmgbpmihbljngaa.PA
open Go.RowKit Go.Proofs.YtmgbpmihbljngaaW.PrintWords Go.Proofs.YtmgbpmihbljngaaW.PrintLast Go.Proofs.YtmgbpmihbljngaaW.PrintMore
set_option linter.unusedVariables false
set_option linter.unusedSimpArgs false
theorem qkh : Ev (fun k => q9.f k) powL := Ev.of q9.mono (k := 40) (by kernel_rfl)
theorem qcm {p x : Int} (hp : p ≤ 31) (hx : 0 ≤ x ∧ x < p) : ∀ n : Nat, n ≤ 3 → 0 ≤ x ^ n ∧ x ^ n ≤ 27000 := by
  intro n hn
  have h2 : 0 ≤ x * x ∧ x * x ≤ 900 := qfd hp hx.1 hx.2 hx.1 hx.2
  have h3 : 0 ≤ x * x * x ∧ x * x * x ≤ 900 * 30 := ⟨Int.mul_nonneg h2.1 hx.1, Int.mul_le_mul h2.2 (by omega) hx.1 (by omega)⟩
  rcases (show n = 0 ∨ n = 1 ∨ n = 2 ∨ n = 3 by omega) with rfl | rfl | rfl | rfl
  · rw [Int.pow_zero]; omega
  · rw [Int.pow_succ, Int.pow_zero, Int.one_mul]; omega
  · rw [Int.pow_succ, Int.pow_succ, Int.pow_zero, Int.one_mul]; omega
  · rw [Int.pow_succ, Int.pow_succ, Int.pow_succ, Int.pow_zero, Int.one_mul]; omega
theorem qeh {p x : Int} (hp : p ≤ 31) (hx : 0 ≤ x ∧ x < p) (n : Nat) (hn : n ≤ 3) : Ev (fun k => z7.f k x (n : Int)) (x ^ n) := by
  have h0 : ∀ (d i : Nat), i + d = n → Ev (fun k => z7.l0 k x (x ^ i) (n : Int) (i : Int)) (x ^ n) := by
    intro d
    induction d with
    | zero =>
      intro i hi
      obtain rfl : i = n := by omega
      exact Ev.step (f := fun _ => some (x ^ i)) (fun q => by rw [z7.l0, if_neg (by omega)]) (Ev.now _)
    | succ d ih =>
      intro i hi
      have := qcm hp hx (i + 1) (by omega)
      rw [Int.pow_succ] at this
      refine Ev.step (fun q => by rw [z7.l0, if_pos (by omega), wsm (i := x ^ i * x) (by omega) (by omega), wsm (by omega) (by omega)]) ?_
      have h := ih (i + 1) (by omega)
      rwa [Int.pow_succ] at h
  unfold z7.f
  have := h0 n 0 (by omega)
  rwa [Int.pow_zero] at this
def monI (t : Int × Int × Int) (i : Nat) : Int := t.1 ^ (powN.getD i (0, 0, 0)).1 * t.2.1 ^ (powN.getD i (0, 0, 0)).2.1 * t.2.2 ^ (powN.getD i (0, 0, 0)).2.2
def cubI (t : Int × Int × Int) : List Int := (List.range 10).map (monI t)
theorem qk8 {x y z : Int} (hx : 0 ≤ x ∧ x ≤ 27000) (hy : 0 ≤ y ∧ y ≤ 27000) (hz : 0 ≤ z ∧ z ≤ 27000) : (0 ≤ x * y ∧ x * y ≤ 729000000) ∧ 0 ≤ x * y * z ∧ x * y * z ≤ 19683000000000 := by
  have h1 : 0 ≤ x * y ∧ x * y ≤ 27000 * 27000 := ⟨Int.mul_nonneg hx.1 hy.1, Int.mul_le_mul hx.2 hy.2 hy.1 (by omega)⟩
  have h2 : 0 ≤ x * y * z ∧ x * y * z ≤ 729000000 * 27000 := ⟨Int.mul_nonneg h1.1 hz.1, Int.mul_le_mul (by omega) hz.2 hz.1 (by omega)⟩
  omega
theorem qm3 {p : Int} (hp : p ≤ 31) (t : Int × Int × Int) (ht : inP p t) : Ev (fun k => zu.f k t.1 t.2.1 t.2.2) (cubI t) := by
  obtain ⟨a0, a1, a2⟩ := ht
  have h0 : ∀ (d i : Nat) (acc : List Int), i + d = 10 → acc = (List.range i).map (monI t) → Ev (fun q => zu.l0 q acc powL (powL.length : Int) (i : Int) t.1 t.2.1 t.2.2) (cubI t) := by
    intro d
    induction d with
    | zero =>
      intro i acc hi ha
      obtain rfl : i = 10 := by omega
      subst ha
      exact Ev.step (f := fun _ => some (cubI t)) (fun q => by rw [zu.l0, if_neg (by simp [powL])]; rfl) (Ev.now _)
    | succ d ih =>
      intro i acc hi ha
      obtain ⟨e0, e1, e2, l0, l1, l2⟩ := qgz i (by omega)
      have hal : acc.length ≤ 1000 := by rw [ha, List.length_map, List.length_range]; omega
      have hpl : (powL.length : Int) = 10 := rfl
      have b0 := qcm hp a0 _ l0
      have b1 := qcm hp a1 _ l1
      have b2 := qcm hp a2 _ l2
      obtain ⟨c1, c2⟩ := qk8 b0 b1 b2
      refine Ev.step (fun q => by rw [zu.l0, if_pos (by omega), if_pos (by omega), if_pos (by omega), e0, e1, e2]) ?_
      refine (Ev.bind (qeh hp a0 _ l0) (Ev.bind (qeh hp a1 _ l1) (Ev.bind (qeh hp a2 _ l2) ?_)))
      refine Ev.yes (show acc.length < 17592186044416 by omega) ?_
      rw [wsm (i := t.1 ^ (powN.getD i (0, 0, 0)).1 * t.2.1 ^ (powN.getD i (0, 0, 0)).2.1) (by omega) (by omega), wsm (i := t.1 ^ (powN.getD i (0, 0, 0)).1 * t.2.1 ^ (powN.getD i (0, 0, 0)).2.1 * t.2.2 ^ (powN.getD i (0, 0, 0)).2.2) (by omega) (by omega), wsm (by omega) (by omega)]
      refine ih (i + 1) _ (by omega) ?_
      rw [ha, List.range_succ, List.map_append]
      rfl
  unfold zu.f
  exact Ev.bind qkh (h0 10 0 [] rfl rfl)
theorem mon_bd {p : Int} (hp : p ≤ 31) {t : Int × Int × Int} (ht : inP p t) (i : Nat) (hi : i < 10) : 0 ≤ monI t i ∧ monI t i ≤ 19683000000000 := by
  obtain ⟨a0, a1, a2⟩ := ht
  obtain ⟨_, _, _, l0, l1, l2⟩ := qgz i hi
  exact (qk8 (qcm hp a0 _ l0) (qcm hp a1 _ l1) (qcm hp a2 _ l2)).2
theorem qof {p x : Int} (hp : 7 ≤ p ∧ p ≤ 31) (h0 : 0 ≤ x) : modV p x = x % p := by
  have h2 := qd7 (p := p) (by omega) x
  rw [modV, wsm (by omega) (by omega), Int.tmod_eq_emod_of_nonneg (a := x) (by omega)]
  have := Int.emod_nonneg x (show p ≠ 0 by omega)
  have := Int.emod_lt_of_pos x (show (0 : Int) < p by omega)
  rw [Int.tmod_eq_emod_of_nonneg (by omega), Int.add_emod_right, Int.emod_emod]
theorem qnp {p : Int} (hp : 7 ≤ p ∧ p ≤ 31) {t : Int × Int × Int} (ht : inP p t) : (cubI t).map (modV p) = cubR p t := by
  rw [cubI, List.map_map, ← qhs]
  refine List.map_congr_left fun i hi => ?_
  exact qof hp (mon_bd hp.2 ht i (List.mem_range.1 hi)).1
theorem qgf {p : Int} (hp : zk p = true) (l : List S43) (hl : l.length ≤ 1000) (hin : ∀ j, j < l.length → inP p ((tps l).getD j (0, 0, 0))) : Ev (fun k => zv.f k p l) (basP p (tps l)) := by
  have hb := zw hp
  have hlen : (tps l).length = l.length := by simp [tps]
  have h0 : ∀ (d i : Nat) (acc : List (List Int)), i + d = l.length → acc = ((tps l).take i).map cubI → Ev (fun q => zv.l0 q p acc l (l.length : Int) (i : Int)) (basP p (tps l)) := by
    intro d
    induction d with
    | zero =>
      intro i acc hi ha
      rw [List.take_of_length_le (by omega)] at ha
      subst ha
      have hs := qaj hp (w := 10) (by omega) ((tps l).map cubI) (by rw [List.length_map]; omega) (fun r hr => by obtain ⟨t, _, rfl⟩ := List.mem_map.1 hr; simp [cubI])
      have e : (((tps l).map cubI).map fun r => r.map (modV p)) = (tps l).map (cubR p) := by
        rw [List.map_map]
        refine List.map_congr_left fun t ht => ?_
        obtain ⟨j, hj, rfl⟩ := List.getElem_of_mem ht
        have := hin j (by omega)
        rw [List.getD_eq_getElem?_getD, List.getElem?_eq_getElem hj] at this
        exact qnp ⟨by omega, by omega⟩ this
      rw [e] at hs
      refine Ev.step (fun q => by rw [zv.l0, if_neg (by omega)]) ?_
      exact Ev.bind hs (Ev.now _)
    | succ d ih =>
      intro i acc hi ha
      have hil : i < l.length := by omega
      have hal : acc.length ≤ 1000 := by rw [ha, List.length_map, List.length_take]; omega
      have e := qbq l i hil
      have hc := qm3 (p := p) (by omega) _ (hin i hil)
      rw [← e] at hc
      refine Ev.step (fun q => by rw [zv.l0, if_pos (by omega), if_pos (by omega), if_pos (by omega)]) ?_
      refine Ev.bind hc (Ev.yes (show acc.length < 5864062014805 by omega) ?_)
      rw [wsm (by omega) (by omega)]
      refine ih (i + 1) _ (by omega) ?_
      rw [ha, List.take_add_one, List.map_append, e, List.getD_eq_getElem?_getD, List.getElem?_eq_getElem (by omega)]
      rfl
  unfold zv.f
  exact h0 l.length 0 [] (by omega) (by simp)
end Go.Proofs.Ytmgbpmihbljngaa.PA
namespace Go.Proofs.Ytmgbpmihbljngaa.PA
open Go.RowKit Go.Proofs.YtmgbpmihbljngaaW.PrintWords Go.Proofs.YtmgbpmihbljngaaW.PrintLast Go.Proofs.YtmgbpmihbljngaaW.PrintMore
set_option linter.unusedVariables false
set_option linter.unusedSimpArgs false
theorem qln {p : Int} (hp : zk p = true) {w : Nat} {L M : List (List Int)} (hL : okR p w L) (hM : okR p w M) (h1 : ∀ r ∈ L, r ∈ M) (h2 : ∀ r ∈ M, r ∈ L ∨ ∀ j, j < w → fn r j = 0) : Qt p w L = Qt p w M := by
  have hb := zw hp
  obtain ⟨N, e1, hN, a1, b1⟩ := Za hp hL
  obtain ⟨K, e2, hK, a2, b2⟩ := Za hp hM
  have hz : ∀ (r : List Int) (v : Nat → Int), (∀ j, j < w → fn r j = 0) → p ∣ dt w (fn r) v := fun r v hr => by
    refine qd8 _ fun x hx => ?_
    obtain ⟨j, hj, rfl⟩ := List.mem_map.1 hx
    rw [hr j (List.mem_range.1 hj), Int.zero_mul]
    exact ⟨0, by simp⟩
  rw [e1, e2, Rref.unique (by omega) hN hK (fun x hx => b2 _ fun r hr => ?_) (fun x hx => b1 _ fun r hr => a2 x hx r (h1 r hr))]
  rcases h2 r hr with h | h
  · exact a1 x hx r h
  · exact hz r _ h
end Go.Proofs.Ytmgbpmihbljngaa.PA
namespace Go.Proofs.Ytmgbpmihbljngaa.PA
open Go.RowKit Go.Proofs.YtmgbpmihbljngaaW.PrintWords Go.Proofs.YtmgbpmihbljngaaW.PrintLast Go.Proofs.YtmgbpmihbljngaaW.PrintMore
set_option linter.unusedVariables false
set_option linter.unusedSimpArgs false
theorem qnk (n : Nat) (f : Nat → Int) : ∀ m, fi n (hz m f) = sm m fun i => fi n (f i)
  | 0 => qax n
  | m + 1 => by rw [hz, sm, qaw, qnk n f m]
theorem qgk {n : Nat} (h : Nat → Fq n) (b : Nat) : ∀ m, sm (b * m) h = sm m fun a => sm b fun c => h (b * a + c)
  | 0 => rfl
  | m + 1 => by rw [Nat.mul_succ, Jo, qgk h b m, sm]
def lkP (p : Int) (d : Nat) (F : Nat → Nat → Int) (f : Nat → Fq (nn p)) : Prop := (∀ i j, i + j ≤ 9 → fi (nn p) (F i j) = f (10 * i + j)) ∧ ∀ r, d < r / 10 + r % 10 → f r = 0
theorem qnf {p : Int} (hp : zk p = true) {d1 d2 : Nat} {F G : Nat → Nat → Int} {f g : Nat → Fq (nn p)} (hF : lkP p d1 F f) (hG : lkP p d2 G g) (hd : d1 + d2 ≤ 9) : lkP p (d1 + d2) (mulI p F G) (mulP f g) := by
  constructor
  · intro i j hij
    rw [mulI, qhb hp, qnk, mulP]
    have e1 : sm (10 * i + j + 1) (fun k => f k * g (10 * i + j - k)) = sm (10 * (i + 1)) fun k => if k ≤ 10 * i + j then f k * g (10 * i + j - k) else 0 := by
      have e0 := Jo (fun k => if k ≤ 10 * i + j then f k * g (10 * i + j - k) else 0) (10 * i + j + 1) (9 - j)
      rw [show 10 * i + j + 1 + (9 - j) = 10 * (i + 1) by omega] at e0
      rw [e0, qa2 (f := fun k => if 10 * i + j + 1 + k ≤ 10 * i + j then f (10 * i + j + 1 + k) * g (10 * i + j - (10 * i + j + 1 + k)) else 0) _ fun k _ => if_neg (by omega)]
      rw [Qr (f := fun k => if k ≤ 10 * i + j then f k * g (10 * i + j - k) else 0) (g := fun k => f k * g (10 * i + j - k)) _ fun k hk => if_pos (by omega)]
      grind
    rw [e1, qgk]
    refine Qr _ fun a ha => ?_
    have e0 := Jo (fun c => if 10 * a + c ≤ 10 * i + j then f (10 * a + c) * g (10 * i + j - (10 * a + c)) else 0) (j + 1) (9 - j)
    rw [show j + 1 + (9 - j) = 10 by omega] at e0
    rw [qnk, e0]
    have e2 : (sm (9 - j) fun c => if 10 * a + (j + 1 + c) ≤ 10 * i + j then f (10 * a + (j + 1 + c)) * g (10 * i + j - (10 * a + (j + 1 + c))) else 0) = 0 := qa2 _ fun c hc => by
      split
      · next hle =>
        by_cases h1 : d1 < (10 * a + (j + 1 + c)) / 10 + (10 * a + (j + 1 + c)) % 10
        · rw [hF.2 _ h1]; grind
        · rw [hG.2 (10 * i + j - (10 * a + (j + 1 + c))) (by omega)]; grind
      · rfl
    rw [e2]
    have e3 : (sm (j + 1) fun c => fi (nn p) (F a c * G (i - a) (j - c))) = sm (j + 1) fun c => if 10 * a + c ≤ 10 * i + j then f (10 * a + c) * g (10 * i + j - (10 * a + c)) else 0 := Qr _ fun c hc => by
      rw [if_pos (by omega), qcl, hF.1 a c (by omega), hG.1 (i - a) (j - c) (by omega), show 10 * i + j - (10 * a + c) = 10 * (i - a) + (j - c) by omega]
    rw [e3]
    grind
  · intro r hr
    refine qa2 _ fun k hk => ?_
    by_cases h1 : d1 < k / 10 + k % 10
    · rw [hF.2 k h1]; grind
    · rw [hG.2 (r - k) (by omega)]; grind
theorem qhu {n : Nat} (v : Nat → Fq n) (r : Nat) (h : 3 < r / 10 + r % 10) : sprd v r = 0 := by
  unfold sprd
  split <;> first | rfl | omega
theorem qoo {n : Nat} (v : Nat → Fq n) : ∀ i j, i + j ≤ 3 → sprd v (10 * i + j) = v (qa9 i j) := by
  intro i j h
  rcases (show i = 0 ∨ i = 1 ∨ i = 2 ∨ i = 3 by omega) with rfl | rfl | rfl | rfl <;> rcases (show j = 0 ∨ j = 1 ∨ j = 2 ∨ j = 3 by omega) with rfl | rfl | rfl | rfl <;> first | omega | rfl
theorem qn2 (i j : Nat) (h : i + j ≤ 3) : qa9 i j < 10 := by
  rcases (show i = 0 ∨ i = 1 ∨ i = 2 ∨ i = 3 by omega) with rfl | rfl | rfl | rfl <;> rcases (show j = 0 ∨ j = 1 ∨ j = 2 ∨ j = 3 by omega) with rfl | rfl | rfl | rfl <;> first | omega | (simp [qa9])
theorem qj3 (p : Int) (a : List Int) : lkP p 3 (cubN a 10) (sprd fun j => fi (nn p) (fn a j)) := by
  constructor
  · intro i j _
    unfold cubN
    by_cases h : i + j ≤ 3
    · rw [if_pos ⟨h, qn2 i j h⟩, qoo _ i j h]; rfl
    · rw [if_neg (by omega), qax, qhu _ _ (by omega)]
  · exact fun r hr => qhu _ r hr
theorem qkz {p : Int} (hp : zk p = true) (Q : List (Int × Int × Int)) (c : Nat) : lkP p 9 (qba p (basP p Q) c) (proT (basS p Q) c) :=
  qnf hp (qnf hp (qj3 p _) (qj3 p _) (by omega)) (qj3 p _) (by omega)
theorem qe8 {p : Int} (hp : zk p = true) (Q : List (Int × Int × Int)) (i j : Nat) (hij : i + j ≤ 9) : rowB p (basP p Q) i j = lstF (nn p) 20 fun c => proT (basS p Q) c (10 * i + j) := by
  have hb := zw hp
  refine qha hp ⟨qft _ _ _ _, fun x hx => ?_⟩ _ fun r hr => ?_
  · obtain ⟨c, _, rfl⟩ := List.mem_map.1 hx
    exact ⟨Int.emod_nonneg _ (by omega), Int.emod_lt_of_pos _ (by omega)⟩
  · rw [← (qkz hp Q r).1 i j hij]
    congr 1
    simp [fn, rd, rowB, List.getD_eq_getElem?_getD, hr]
theorem qby (p : Int) (l : List (List Int)) (r : List Int) : ∀ x, x ≤ 10 → (r ∈ Jm p l x ↔ ∃ i j, i < x ∧ j < 10 - i ∧ r = rowB p l i j)
  | 0, _ => by simp [Jm]
  | x + 1, hx => by
    rw [Jm, List.mem_append, qby p l r x (by omega), List.mem_map]
    constructor
    · rintro (⟨i, j, h1, h2, h3⟩ | ⟨j, hj, rfl⟩)
      · exact ⟨i, j, by omega, h2, h3⟩
      · exact ⟨x, j, by omega, List.mem_range.1 hj, rfl⟩
    · rintro ⟨i, j, h1, h2, rfl⟩
      by_cases e : i = x
      · subst e; exact .inr ⟨j, List.mem_range.2 h2, rfl⟩
      · exact .inl ⟨i, j, by omega, h2, rfl⟩
theorem qig {p : Int} (hp : zk p = true) (Q : List (Int × Int × Int)) : okR p 20 (Jm p (basP p Q) 10) := fun r hr => by
  obtain ⟨i, j, h1, h2, rfl⟩ := (qby p _ r 10 (by omega)).1 hr
  rw [qe8 hp Q i j (by omega)]
  exact qj5 hp 20 _
theorem qj0 {p : Int} (hp : zk p = true) (Q : List (Int × Int × Int)) : Qt p 20 (Jm p (basP p Q) 10) = Qt p 20 (surT p Q) := by
  refine qln hp (qig hp Q) (qef hp Q) (fun r hr => ?_) fun r hr => ?_
  · obtain ⟨i, j, h1, h2, rfl⟩ := (qby p _ r 10 (by omega)).1 hr
    rw [qe8 hp Q i j (by omega)]
    exact List.mem_map.2 ⟨10 * i + j, List.mem_range.2 (by omega), rfl⟩
  · obtain ⟨q, hq, rfl⟩ := List.mem_map.1 hr
    have hq := List.mem_range.1 hq
    by_cases h : q / 10 + q % 10 ≤ 9
    · refine .inl ((qby p _ _ 10 (by omega)).2 ⟨q / 10, q % 10, by omega, by omega, ?_⟩)
      rw [qe8 hp Q _ _ h, show 10 * (q / 10) + q % 10 = q by omega]
    · refine .inr fun j hj => ?_
      rw [qet _ j hj, (qkz hp Q j).2 q (by omega)]
      rfl
end Go.Proofs.Ytmgbpmihbljngaa.PA
namespace Go.Proofs.Ytmgbpmihbljngaa.PA
open Go.RowKit Go.Proofs.YtmgbpmihbljngaaW.PrintWords Go.Proofs.YtmgbpmihbljngaaW.PrintLast Go.Proofs.YtmgbpmihbljngaaW.PrintMore
set_option linter.unusedVariables false
set_option linter.unusedSimpArgs false
theorem trs_ev : Ev (fun k => ze.f k) trL := Ev.of ze.mono (k := 60) (by kernel_rfl)
theorem qcv {p : Int} {Q : List (Int × Int × Int)} (hg : genB p Q = true) : Ev (fun k => q6.f k p (basP p Q)) (surP p Q) := by
  obtain ⟨hp, h6, ha, _⟩ := Qz hg
  have hb := zw hp
  have hl := qcp hp h6 (qbk hg)
  have hok : q6.ok p (basP p Q) = true := by
    unfold q6.ok
    rw [Bool.and_eq_true, decide_eq_true_iff, List.all_eq_true]
    refine ⟨⟨by omega, by omega, hl⟩, fun a ha => ?_⟩
    obtain ⟨i, hi, rfl⟩ := qbi ha
    have := qez (Q := Q) hp i hi
    rw [Bool.and_eq_true, decide_eq_true_iff, List.all_eq_true]
    exact ⟨this.1, fun x hx => decide_eq_true (this.2 x hx)⟩
  unfold q6.f
  refine Ev.bind qkh (Ev.bind trs_ev (Ev.yes ⟨hok, rfl, rfl⟩ ?_))
  have hs := qhm hp (w := 20) (by omega) (Jm p (basP p Q) 10) (by have := qdl p (basP p Q) 10; omega) (qig hp Q)
  rw [qj0 hp Q] at hs
  have hne := qi6 hg
  refine Ev.bind hs (Ev.k ?_)
  rw [surP]
  cases h : Qt p 20 (surT p Q) with
  | nil => exact absurd h hne
  | cons a b => rfl
end Go.Proofs.Ytmgbpmihbljngaa.PA
namespace Go.Proofs.Ytmgbpmihbljngaa.PA
open Go.RowKit Go.Proofs.YtmgbpmihbljngaaW.PrintWords Go.Proofs.YtmgbpmihbljngaaW.PrintLast Go.Proofs.YtmgbpmihbljngaaW.PrintMore
set_option linter.unusedVariables false
set_option linter.unusedSimpArgs false
def qm4 (p : Int) (Q : List (Int × Int × Int)) : List Int × Bool := if genB p Q = true then (surP p Q, true) else ([], false)
end Go.Proofs.Ytmgbpmihbljngaa.PA
namespace Go.Proofs.Ytmgbpmihbljngaa.PA
open Go.RowKit Go.Proofs.YtmgbpmihbljngaaW.PrintWords Go.Proofs.YtmgbpmihbljngaaW.PrintLast Go.Proofs.YtmgbpmihbljngaaW.PrintMore
set_option linter.unusedVariables false
set_option linter.unusedSimpArgs false
theorem qfu (p : Int) (l : List S43) : Ev (fun k => jy.f k p l) (qm4 p (tps l)) := by
  have hlen : (tps l).length = l.length := by simp [tps]
  unfold jy.f qm4
  refine Ev.bind (qb5 p l) ?_
  cases hg : genB p (tps l) with
  | false => exact Ev.no (by simp) (Ev.now _)
  | true =>
    obtain ⟨hp, h6, ha, _⟩ := Qz hg
    refine Ev.yes rfl (Ev.bind (qgf hp l (by omega) fun j hj => Jw ((Zl ha).1 j (by omega))) (Ev.bind (qcv hg) (Ev.now _)))
end Go.Proofs.Ytmgbpmihbljngaa.PA
namespace Go.Proofs.Ytmgbpmihbljngaa.PA
open Go.RowKit Go.Proofs.YtmgbpmihbljngaaW.PrintWords Go.Proofs.YtmgbpmihbljngaaW.PrintLast Go.Proofs.YtmgbpmihbljngaaW.PrintMore
set_option linter.unusedVariables false
set_option linter.unusedSimpArgs false
def xs2 (f a : List Int) (two : Int) : Nat → Int → Int → Int → Int
  | 0, s, _, _ => s
  | d + 1, s, n, l => xs2 f a two d (s + rd f n * two * rd a l) (n + 1) (l + 1)
def xs1 (f a : List Int) (i : Int) : Nat → Int → Int → Int → Int
  | 0, s, _, _ => s
  | d + 1, s, n, j => xs1 f a i d (xs2 f a (rd a i * rd a j) (d + 1) s n j) (n + (d + 1 : Nat)) (j + 1)
def xs0 (f a : List Int) : Nat → Int → Int → Int → Int
  | 0, s, _, _ => s
  | d + 1, s, n, i => xs0 f a d (xs1 f a i (d + 1) s n i) (n + tri (d + 1)) (i + 1)
def xval (f a : List Int) : Int := xs0 f a 4 0 0 0
def Jd (l : List Int) : Prop := ∀ i, 0 ≤ rd l i ∧ rd l i ≤ 30
theorem qap {p : Int} {l : List Int} {n : Nat} (h : Zx p l n = true) : Jd l := by
  intro i
  obtain ⟨hp, hl, hr⟩ := Qo h
  have hb := zw hp
  unfold rd
  rw [List.getD_eq_getElem?_getD]
  cases hi : l[i.toNat]? with
  | none => simp
  | some x => have := hr x (List.mem_of_getElem? hi); simp; omega
theorem J0 {x y a b : Int} (h0 : 0 ≤ x) (h1 : x ≤ a) (h2 : 0 ≤ y) (h3 : y ≤ b) : 0 ≤ x * y ∧ x * y ≤ a * b :=
  ⟨Int.mul_nonneg h0 h2, Int.le_trans (Int.mul_le_mul_of_nonneg_right h1 h2) (Int.mul_le_mul_of_nonneg_left h3 (Int.le_trans h0 h1))⟩
theorem vs2_eq (f a : List Int) (hf : Jd f) (ha : Jd a) (two : Int) (ht : 0 ≤ two ∧ two ≤ 900) (d : Nat) : ∀ (s n l : Int), 0 ≤ s → s + d * 1000000 ≤ 100000000 →
    vs2 f a two d s n l = xs2 f a two d s n l ∧ 0 ≤ xs2 f a two d s n l ∧ xs2 f a two d s n l ≤ s + d * 1000000 := by
  induction d with
  | zero => intro s n l h0 h1; exact ⟨rfl, h0, by rw [xs2]; omega⟩
  | succ d ih =>
    intro s n l h0 h1
    have m1 := J0 (hf n).1 (hf n).2 ht.1 ht.2
    have m2 := J0 m1.1 m1.2 (ha l).1 (ha l).2
    rw [vs2, xs2, wsm (i := rd f n * two) (by omega) (by omega), wsm (i := rd f n * two * rd a l) (by omega) (by omega), wsm (by omega) (by omega)]
    have ih := ih (s + rd f n * two * rd a l) (n + 1) (l + 1) (by omega) (by omega)
    refine ⟨ih.1, ih.2.1, ?_⟩
    have := ih.2.2
    omega
theorem qhj (f a : List Int) (hf : Jd f) (ha : Jd a) (i : Int) (d : Nat) : ∀ (s n j : Int), 0 ≤ s → s + (tri d) * 1000000 ≤ 100000000 →
    (vs1 f a i d s n j).1 = xs1 f a i d s n j ∧ 0 ≤ xs1 f a i d s n j ∧ xs1 f a i d s n j ≤ s + (tri d) * 1000000 := by
  induction d with
  | zero => intro s n j h0 h1; exact ⟨rfl, h0, by rw [xs1]; omega⟩
  | succ d ih =>
    intro s n j h0 h1
    have m1 := J0 (ha i).1 (ha i).2 (ha j).1 (ha j).2
    rw [tri] at h1
    rw [vs1, xs1, wsm (i := rd a i * rd a j) (by omega) (by omega)]
    have h2 := vs2_eq f a hf ha (rd a i * rd a j) (by omega) (d + 1) s n j h0 (by omega)
    rw [h2.1]
    have ih := ih (xs2 f a (rd a i * rd a j) (d + 1) s n j) (n + (d + 1 : Nat)) (j + 1) h2.2.1 (by omega)
    refine ⟨ih.1, ih.2.1, ?_⟩
    have h3 := ih.2.2
    have h4 := h2.2.2
    rw [tri]
    omega
theorem qnx (f a : List Int) (hf : Jd f) (ha : Jd a) : vs0 f a 4 0 0 0 = xval f a ∧ 0 ≤ xval f a ∧ xval f a ≤ 100000000 := by
  have h4 := qhj f a hf ha 0 4 0 0 0 (by omega) (by simp [tri])
  have h3 := qhj f a hf ha 1 3 _ (0 + tri 4) 1 h4.2.1 (by have := h4.2.2; simp [tri] at this ⊢; omega)
  have h2 := qhj f a hf ha 2 2 _ (0 + tri 4 + tri 3) 2 h3.2.1 (by have := h4.2.2; have := h3.2.2; simp [tri] at *; omega)
  have h1 := qhj f a hf ha 3 1 _ (0 + tri 4 + tri 3 + tri 2) 3 h2.2.1 (by have := h4.2.2; have := h3.2.2; have := h2.2.2; simp [tri] at *; omega)
  unfold xval
  simp only [vs0, xs0, qds]
  simp only [Int.zero_add, show (1 : Int) + 1 = 2 from rfl, show (2 : Int) + 1 = 3 from rfl] at *
  rw [h4.1, h3.1, h2.1, h1.1]
  refine ⟨rfl, h1.2.1, ?_⟩
  have a1 := h1.2.2
  have a2 := h2.2.2
  have a3 := h3.2.2
  have a4 := h4.2.2
  simp [tri] at *
  omega
theorem qo4 {p : Int} {f a : List Int} (hf : Jd f) (ha : Jd a) : valI p f a = xval f a % p := by
  unfold valI
  rw [(qnx f a hf ha).1, Int.tmod_eq_emod_of_nonneg (qnx f a hf ha).2.1]
theorem qf5 (p : Int) (f a : List Int) (hp : 7 ≤ p ∧ p ≤ 31) (hf : f.length = 20) (ha : a.length = 4) (sf : Jd f) (sa : Jd a) : Ev (fun k => qt.f k p f a) (xval f a % p) := by
  have h := qj2 p f a (by omega) hf ha
  rwa [qo4 sf sa] at h
end Go.Proofs.Ytmgbpmihbljngaa.PA
namespace Go.Proofs.Ytmgbpmihbljngaa.PA
open Go.RowKit Go.Proofs.YtmgbpmihbljngaaW.PrintWords Go.Proofs.YtmgbpmihbljngaaW.PrintLast Go.Proofs.YtmgbpmihbljngaaW.PrintMore
set_option linter.unusedVariables false
set_option linter.unusedSimpArgs false
theorem qem {p : Int} {Q : List (Int × Int × Int)} (h : genB p Q = true) : Zx p (surP p Q) 20 = true := qfc (Qz h).1 (qny h).1 (qny h).2
def hasP (p : Int) (Q : List (Int × Int × Int)) (a : List Int) : Bool := genB p Q && (Q1 p a && (xval (surP p Q) a % p == 0))
end Go.Proofs.Ytmgbpmihbljngaa.PA
namespace Go.Proofs.Ytmgbpmihbljngaa.PA
open Go.RowKit Go.Proofs.YtmgbpmihbljngaaW.PrintWords Go.Proofs.YtmgbpmihbljngaaW.PrintLast Go.Proofs.YtmgbpmihbljngaaW.PrintMore
set_option linter.unusedVariables false
set_option linter.unusedSimpArgs false
theorem qe2 (p : Int) (a : List Int) : Qi.f p a = some (Q1 p a) := by
  unfold Qi.f Q1
  rw [show (4 : Int) = ((4 : Nat) : Int) from rfl, qai]
  cases Zx p a 4 <;> rfl
end Go.Proofs.Ytmgbpmihbljngaa.PA
namespace Go.Proofs.Ytmgbpmihbljngaa.PA
open Go.RowKit Go.Proofs.YtmgbpmihbljngaaW.PrintWords Go.Proofs.YtmgbpmihbljngaaW.PrintLast Go.Proofs.YtmgbpmihbljngaaW.PrintMore
set_option linter.unusedVariables false
set_option linter.unusedSimpArgs false
theorem qei (p : Int) (l : List S43) (a : List Int) : Ev (fun k => jp.f k p l a) (hasP p (tps l) a) := by
  have hlen : (tps l).length = l.length := by simp [tps]
  unfold jp.f hasP
  refine Ev.bind (qb5 p l) ?_
  cases hg : genB p (tps l) with
  | false => exact Ev.no (by simp) (Ev.now _)
  | true =>
    obtain ⟨hp, h6, ha, _⟩ := Qz hg
    have hb := zw hp
    refine Ev.yes rfl (Ev.bind (Ev.k (qe2 p a)) ?_)
    cases hpl : Q1 p a with
    | false => exact Ev.no (by simp) (Ev.now _)
    | true =>
      rw [Q1, Bool.and_eq_true] at hpl
      have hn := qem hg
      have hv := qf5 p (surP p (tps l)) a ⟨by omega, by omega⟩ (Qo hn).2.1 (Qo hpl.1).2.1 (qap hn) (qap hpl.1)
      refine Ev.yes rfl (Ev.bind (qgf hp l (by omega) fun j hj => Jw ((Zl ha).1 j (by omega))) (Ev.bind (qcv hg) (Ev.bind hv ?_)))
      exact Ev.now _
end Go.Proofs.Ytmgbpmihbljngaa.PA
namespace Go.Proofs.Ytmgbpmihbljngaa.PA
open Go.RowKit Go.Proofs.YtmgbpmihbljngaaW.PrintWords Go.Proofs.YtmgbpmihbljngaaW.PrintLast Go.Proofs.YtmgbpmihbljngaaW.PrintMore
set_option linter.unusedVariables false
set_option linter.unusedSimpArgs false
theorem qf7 {p : Int} (hp : zk p = true) (x : Int) : Ji p x = (decide (0 ≤ x) && decide (x < p)) := by
  have hb := zw hp
  rw [Ji, wsm (by omega) (by omega), show decide (x ≤ p - 1) = decide (x < p) from decide_eq_decide.2 (by omega)]
theorem qjq (p : Int) (l : List Int) : Ev (fun k => Qd.f k p l) (Q1 p l) := by
  unfold Qd.f
  refine Ev.bind (Ev.k (qa7 p)) ?_
  cases hp : zk p with
  | false =>
    refine Ev.no (by simp) ?_
    rw [show Q1 p l = false from by simp [Q1, Zx, hp]]
    exact Ev.now _
  | true =>
    refine Ev.yes rfl ?_
    by_cases hl : l.length = 4
    · refine Ev.yes hl ?_
      by_cases ha : l.all (Ji p) = true
      · refine Ev.yes ha ?_
        have hr : ∀ x ∈ l, 0 ≤ x ∧ x < p := fun x hx => by
          have h1 := List.all_eq_true.1 ha x hx
          rw [qf7 hp] at h1
          simpa using h1
        refine Ev.bind (qbe hp l hr (by omega)) (Ev.bind (Jy l (by omega)) (Ev.yes (by simp [rowP, hl]) ?_))
        have e : (!(l.all fun x => x == 0) && (rowP p l == l)) = Q1 p l := by
          rw [Q1, qfc hp hl hr, Bool.true_and, ← qgd hp hr]
          congr 1
          rw [Bool.eq_iff_iff]; simp
        rw [e]
        exact Ev.now _
      · refine Ev.no ha ?_
        rw [show Q1 p l = false from by
          cases hh : Q1 p l with
          | false => rfl
          | true =>
            refine absurd (List.all_eq_true.2 fun x hx => ?_) ha
            rw [Q1, Bool.and_eq_true] at hh
            rw [qf7 hp]
            simpa using (Qo hh.1).2.2 x hx]
        exact Ev.now _
    · refine Ev.no hl ?_
      rw [show Q1 p l = false from by
        cases hh : Q1 p l with
        | false => rfl
        | true =>
          rw [Q1, Bool.and_eq_true] at hh
          exact absurd (Qo hh.1).2.1 hl]
      exact Ev.now _
end Go.Proofs.Ytmgbpmihbljngaa.PA
namespace Go.Proofs.Ytmgbpmihbljngaa.PA
open Go.RowKit Go.Proofs.YtmgbpmihbljngaaW.PrintWords Go.Proofs.YtmgbpmihbljngaaW.PrintLast Go.Proofs.YtmgbpmihbljngaaW.PrintMore
set_option linter.unusedVariables false
set_option linter.unusedSimpArgs false
def codN : List Nat := [30, 21, 20, 12, 11, 10, 3, 2, 1, 0]
def spS (a : List Int) : Nat → List Int
  | 0 => List.replicate 100 0
  | i + 1 => (spS a i).set (codN.getD i 0) (rd a (i : Int))
theorem qeg (a : List Int) : ∀ i, (spS a i).length = 100
  | 0 => by simp [spS]
  | i + 1 => by rw [spS, List.length_set, qeg a i]
theorem cod_at : ∀ i : Nat, i < 10 → wrap64 (wrap64 (10 * (qy powL (i : Int)).f0) + (qy powL (i : Int)).f1) = ((codN.getD i 0 : Nat) : Int) ∧ codN.getD i 0 < 100 := by
  intro i hi
  rcases (show i = 0 ∨ i = 1 ∨ i = 2 ∨ i = 3 ∨ i = 4 ∨ i = 5 ∨ i = 6 ∨ i = 7 ∨ i = 8 ∨ i = 9 by omega) with rfl | rfl | rfl | rfl | rfl | rfl | rfl | rfl | rfl | rfl <;> exact ⟨by decide +kernel, by decide⟩
theorem spS_fn {p : Int} (a : List Int) (r : Nat) : fi (nn p) (fn (spS a 10) r) = sprd (fun j => fi (nn p) (fn a j)) r := by
  have hz : fn (List.replicate 100 0) r = 0 := by
    simp only [fn, rd, Int.toNat_natCast, List.getD_eq_getElem?_getD, List.getElem?_replicate]
    split <;> rfl
  have e : fn (spS a 10) r = if r = 0 then fn a 9 else if r = 1 then fn a 8 else if r = 2 then fn a 7 else if r = 3 then fn a 6 else if r = 10 then fn a 5 else if r = 11 then fn a 4 else if r = 12 then fn a 3 else if r = 20 then fn a 2 else if r = 21 then fn a 1 else if r = 30 then fn a 0 else 0 := by
    have s : ∀ i, (spS a i).length = 100 := qeg a
    rw [spS, Z5 _ _ _ _ (by rw [s]; decide), spS, Z5 _ _ _ _ (by rw [s]; decide), spS, Z5 _ _ _ _ (by rw [s]; decide), spS, Z5 _ _ _ _ (by rw [s]; decide), spS, Z5 _ _ _ _ (by rw [s]; decide), spS, Z5 _ _ _ _ (by rw [s]; decide), spS, Z5 _ _ _ _ (by rw [s]; decide), spS, Z5 _ _ _ _ (by rw [s]; decide), spS, Z5 _ _ _ _ (by rw [s]; decide), spS, Z5 _ _ _ _ (by rw [s]; decide), spS, hz]
    rfl
  have key : ∀ v : Nat → Fq (nn p), (r ≠ 0 ∧ r ≠ 1 ∧ r ≠ 2 ∧ r ≠ 3 ∧ r ≠ 10 ∧ r ≠ 11 ∧ r ≠ 12 ∧ r ≠ 20 ∧ r ≠ 21 ∧ r ≠ 30) → sprd v r = 0 := fun v h => by
    unfold sprd
    split <;> first | rfl | omega
  rw [e]
  by_cases h0 : r = 0
  · subst h0; rfl
  by_cases h1 : r = 1
  · subst h1; rfl
  by_cases h2 : r = 2
  · subst h2; rfl
  by_cases h3 : r = 3
  · subst h3; rfl
  by_cases h10 : r = 10
  · subst h10; rfl
  by_cases h11 : r = 11
  · subst h11; rfl
  by_cases h12 : r = 12
  · subst h12; rfl
  by_cases h20 : r = 20
  · subst h20; rfl
  by_cases h21 : r = 21
  · subst h21; rfl
  by_cases h30 : r = 30
  · subst h30; rfl
  rw [key _ ⟨h0, h1, h2, h3, h10, h11, h12, h20, h21, h30⟩, if_neg h0, if_neg h1, if_neg h2, if_neg h3, if_neg h10, if_neg h11, if_neg h12, if_neg h20, if_neg h21, if_neg h30, qax]
theorem qgw {p : Int} (hp : zk p = true) (a : List Int) (ha : a.length = 10 ∧ ∀ x ∈ a, 0 ≤ x ∧ x < p) : Ev (fun k => qw.f k a) (lstF (nn p) 100 (sprd fun j => fi (nn p) (fn a j))) := by
  have hb := zw hp
  have hok : ∀ i, i ≤ 10 → (spS a i).length = 100 ∧ ∀ x ∈ spS a i, 0 ≤ x ∧ x < p := by
    intro i
    induction i with
    | zero => exact fun _ => ⟨by simp [spS], fun x hx => by have := (List.mem_replicate.1 hx).2; omega⟩
    | succ i ih =>
      intro hi
      refine ⟨qeg a _, fun x hx => ?_⟩
      rcases List.mem_or_eq_of_mem_set hx with h | h
      · exact (ih (by omega)).2 x h
      · rw [h, Z6 a i (by omega)]; exact ha.2 _ (List.getElem_mem _)
  have h0 : ∀ (d i : Nat), i + d = 10 → Ev (fun q => qw.l0 q a (spS a i) powL (i : Int)) (spS a 10) := by
    intro d
    induction d with
    | zero =>
      intro i hi
      obtain rfl : i = 10 := by omega
      exact Ev.step (f := fun _ => some (spS a 10)) (fun q => by rw [qw.l0, if_neg (by omega)]) (Ev.now _)
    | succ d ih =>
      intro i hi
      obtain ⟨e1, e2⟩ := cod_at i (by omega)
      have hs := qeg a i
      refine Ev.step (fun q => by rw [qw.l0, if_pos (by omega), if_pos (by omega), if_pos (by simp [powL]; omega), if_pos (by omega), e1, if_pos (by omega), if_pos (by omega), Int.toNat_natCast, wsm (by omega) (by omega)]) ?_
      exact ih (i + 1) (by omega)
  have e : spS a 10 = lstF (nn p) 100 (sprd fun j => fi (nn p) (fn a j)) := qha hp (hok 10 (Nat.le_refl _)) _ fun r _ => spS_fn a r
  unfold qw.f
  refine Ev.yes (by omega) (Ev.bind (Ev.k qdx) ?_)
  rw [← e]
  exact h0 10 0 rfl
end Go.Proofs.Ytmgbpmihbljngaa.PA
namespace Go.Proofs.Ytmgbpmihbljngaa.PA
open Go.RowKit Go.Proofs.YtmgbpmihbljngaaW.PrintWords Go.Proofs.YtmgbpmihbljngaaW.PrintLast Go.Proofs.YtmgbpmihbljngaaW.PrintMore
set_option linter.unusedVariables false
set_option linter.unusedSimpArgs false
def pS {n : Nat} (F G : Nat → Fq n) (i k r : Nat) : Fq n := sm i (fun j => if j ≤ r then F j * G (r - j) else 0) + if i ≤ r ∧ r - i < k then F i * G (r - i) else 0
theorem qmq {n : Nat} (F G : Nat → Fq n) (r : Nat) : pS F G 0 0 r = 0 := by simp [pS, sm]
theorem qot {n : Nat} (F G : Nat → Fq n) (i : Nat) (h : F i = 0) (r : Nat) : pS F G (i + 1) 0 r = pS F G i 0 r := by
  have hz : (if i ≤ r then F i * G (r - i) else 0) = 0 := by split <;> simp [h] <;> grind
  simp [pS, sm, hz]
theorem qn9 {n : Nat} (F G : Nat → Fq n) (i r w : Nat) (hr : r < w) (hi : i ≤ w) : pS F G i (w - i) r = pS F G (i + 1) 0 r := by
  simp only [pS, sm]
  by_cases h : i ≤ r
  · rw [if_pos ⟨h, by omega⟩, if_pos h, if_neg (by omega)]; grind
  · rw [if_neg (by omega), if_neg h, if_neg (by omega)]; grind
theorem pS_end {n : Nat} (F G : Nat → Fq n) (r w : Nat) (hr : r < w) : pS F G w 0 r = mulP F G r := by
  obtain ⟨d, rfl⟩ : ∃ d, w = (r + 1) + d := ⟨w - (r + 1), by omega⟩
  rw [pS, if_neg (by omega), Jo, qa2 (m := d) fun i _ => if_neg (by omega), mulP]
  have : sm (r + 1) (fun j => if j ≤ r then F j * G (r - j) else 0) = sm (r + 1) (fun j => F j * G (r - j)) := Qr _ fun j hj => if_pos (by omega)
  rw [this]
  grind
theorem qop {n : Nat} (F G : Nat → Fq n) (i k r : Nat) (h : G k = 0) : pS F G i (k + 1) r = pS F G i k r := by
  unfold pS
  congr 1
  by_cases h1 : i ≤ r ∧ r - i < k
  · rw [if_pos h1, if_pos ⟨h1.1, by omega⟩]
  · rw [if_neg h1]
    by_cases h2 : i ≤ r ∧ r - i < k + 1
    · rw [if_pos h2, show r - i = k by omega, h]; grind
    · rw [if_neg h2]
theorem qn7 {n : Nat} (F G : Nat → Fq n) (i k r : Nat) : pS F G i (k + 1) r = if r = i + k then pS F G i k (i + k) + F i * G k else pS F G i k r := by
  by_cases e : r = i + k
  · subst e
    rw [if_pos rfl, pS, pS, if_pos ⟨by omega, by omega⟩, if_neg (by omega), show i + k - i = k by omega]
    grind
  · rw [if_neg e, pS, pS]
    congr 1
    by_cases h1 : i ≤ r ∧ r - i < k
    · rw [if_pos h1, if_pos ⟨h1.1, by omega⟩]
    · rw [if_neg h1, if_neg (by omega)]
theorem qhp {p : Int} (hp : zk p = true) (F G : Nat → Fq (nn p)) : Ev (fun k => qn.f k p (lstF (nn p) 100 F) (lstF (nn p) 100 G)) (lstF (nn p) 100 (mulP F G)) := by
  have hb := zw hp
  have hn := nn_p hp
  have lF := Je (nn p) 100 F
  have lG := Je (nn p) 100 G
  have hv : ∀ a : Fq (nn p), 0 ≤ ((a.val : Nat) : Int) ∧ ((a.val : Nat) : Int) < p := fun a => by have := a.isLt; omega
  have rF : ∀ (H : Nat → Fq (nn p)) (j : Nat), j < 100 → rd (lstF (nn p) 100 H) (j : Int) = (((H j).val : Nat) : Int) := fun H j hj => qet H j hj
  have h1 : ∀ (i : Nat) (R : List Int), i < 100 → Ev (fun q => qn.l0 q p (lstF (nn p) 100 F) (lstF (nn p) 100 G) (lstF (nn p) 100 (pS F G (i + 1) 0)) ((i + 1 : Nat) : Int)) R → ∀ (d k : Nat), i + k + d = 100 → Ev (fun q => qn.l1 q p (lstF (nn p) 100 F) (lstF (nn p) 100 G) (lstF (nn p) 100 (pS F G i k)) (i : Int) (k : Int)) R := by
    intro i R hi hend d
    induction d with
    | zero =>
      intro k hk
      have e : lstF (nn p) 100 (pS F G i k) = lstF (nn p) 100 (pS F G (i + 1) 0) := qao fun r hr => by rw [show k = 100 - i by omega]; exact qn9 F G i r 100 hr (by omega)
      rw [e]
      refine Ev.step (fun q => by rw [qn.l1, wsm (by omega) (by omega), if_neg (by omega), wsm (by omega) (by omega)]) ?_
      exact hend
    | succ d ih =>
      intro k hk
      have lS := Je (nn p) 100 (pS F G i k)
      by_cases hz : rd (lstF (nn p) 100 G) (k : Int) = 0
      · have e : lstF (nn p) 100 (pS F G i k) = lstF (nn p) 100 (pS F G i (k + 1)) := qao fun r _ => (qop F G i k r (by rw [rF G k (by omega)] at hz; exact Fin.ext (by show (G k).val = 0; omega))).symm
        rw [e]
        refine Ev.step (fun q => by rw [qn.l1, wsm (i := (i : Int) + k) (by omega) (by omega), if_pos (by omega), if_pos (by omega), if_pos (by omega), if_pos hz, wsm (by omega) (by omega)]) ?_
        exact ih (k + 1) (by omega)
      · have e1 : ((i : Int) + (k : Int)) = ((i + k : Nat) : Int) := by omega
        have b1 := hv (F i)
        have b2 := hv (G k)
        have b3 := hv (pS F G i k (i + k))
        have b4 := Qb (p := p) ⟨by omega, by omega⟩ b1 b2
        have b5 : 0 ≤ (((pS F G i k (i + k)).val : Nat) : Int) + (((F i).val : Nat) : Int) * (((G k).val : Nat) : Int) := by omega
        have e2 : (lstF (nn p) 100 (pS F G i k)).set (i + k) (((((pS F G i k (i + k)).val : Nat) : Int) + (((F i).val : Nat) : Int) * (((G k).val : Nat) : Int)) % p) = lstF (nn p) 100 (pS F G i (k + 1)) := by
          rw [qod hp _ _ _ ⟨Int.emod_nonneg _ (by omega), Int.emod_lt_of_pos _ (by omega)⟩]
          refine qao fun r _ => ?_
          rw [qn7, qhb hp, qaw, qcl, J4, J4, J4]
        refine Ev.step (fun q => by rw [qn.l1, wsm (i := (i : Int) + k) (by omega) (by omega), if_pos (by omega), if_pos (by omega), if_pos (by omega), if_neg hz, if_pos (by omega), if_pos (by omega), if_pos (by omega), if_pos (by omega), if_neg (by omega), e1, rF _ (i + k) (by omega), rF F i hi, rF G k (by omega), Int.toNat_natCast, wsm (i := (((F i).val : Nat) : Int) * _) (by omega) (by omega), wsm (i := _ + _) (by omega) (by omega), Int.tmod_eq_emod_of_nonneg b5, e2, wsm (i := (k : Int) + 1) (by omega) (by omega)]) ?_
        exact ih (k + 1) (by omega)
  have h0 : ∀ (d i : Nat), i + d = 100 → Ev (fun q => qn.l0 q p (lstF (nn p) 100 F) (lstF (nn p) 100 G) (lstF (nn p) 100 (pS F G i 0)) (i : Int)) (lstF (nn p) 100 (mulP F G)) := by
    intro d
    induction d with
    | zero =>
      intro i hi
      obtain rfl : i = 100 := by omega
      have e : lstF (nn p) 100 (pS F G 100 0) = lstF (nn p) 100 (mulP F G) := qao fun r hr => pS_end F G r 100 hr
      rw [e]
      exact Ev.step (f := fun _ => some (lstF (nn p) 100 (mulP F G))) (fun q => by rw [qn.l0, if_neg (by omega)]) (Ev.now _)
    | succ d ih =>
      intro i hi
      by_cases hz : rd (lstF (nn p) 100 F) (i : Int) = 0
      · have e : lstF (nn p) 100 (pS F G i 0) = lstF (nn p) 100 (pS F G (i + 1) 0) := qao fun r _ => (qot F G i (by rw [rF F i (by omega)] at hz; exact Fin.ext (by show (F i).val = 0; omega)) r).symm
        rw [e]
        refine Ev.step (fun q => by rw [qn.l0, if_pos (by omega), if_pos (by omega), if_pos (by omega), if_pos hz, wsm (by omega) (by omega)]) ?_
        exact ih (i + 1) (by omega)
      · refine Ev.step (fun q => by rw [qn.l0, if_pos (by omega), if_pos (by omega), if_pos (by omega), if_neg hz]) ?_
        exact h1 i _ (by omega) (ih (i + 1) (by omega)) (100 - i) 0 (by omega)
  have e : List.replicate 100 (0 : Int) = lstF (nn p) 100 (pS F G 0 0) := qha hp ⟨by simp, fun x hx => by have := (List.mem_replicate.1 hx).2; omega⟩ _ fun r hr => by
    rw [qmq]
    simp only [fn, rd, Int.toNat_natCast, List.getD_eq_getElem?_getD, List.getElem?_replicate, if_pos hr, Option.getD_some, qax]
  unfold qn.f
  refine Ev.yes (by omega) ?_
  rw [e]
  exact h0 100 0 rfl
end Go.Proofs.Ytmgbpmihbljngaa.PA
namespace Go.Proofs.Ytmgbpmihbljngaa.PA
open Go.RowKit Go.Proofs.YtmgbpmihbljngaaW.PrintWords Go.Proofs.YtmgbpmihbljngaaW.PrintLast Go.Proofs.YtmgbpmihbljngaaW.PrintMore
set_option linter.unusedVariables false
set_option linter.unusedSimpArgs false
theorem qnv {p : Int} (l : List S43) (hg : genB p (tps l) = true) : Ev (fun k => ql.f k p l) (surP p (tps l)) := by
  obtain ⟨hp, h6, ha, _⟩ := Qz hg
  have hb := zw hp
  have hlen : (tps l).length = l.length := by simp [tps]
  have hin : ∀ j, j < l.length → inP p ((tps l).getD j (0, 0, 0)) := fun j hj => Jw ((Zl ha).1 j (by omega))
  have hbl := qcp hp h6 (qbk hg)
  generalize hQ : tps l = Q at *
  generalize hB : basP p Q = B at *
  have hS : ∀ i, i < 4 → Ev (fun k => qw.f k (B.getD i [])) (lstF (nn p) 100 (basS p Q i)) := fun i hi => by
    have := qez (Q := Q) hp i (by rw [hB]; omega)
    rw [hB] at this
    have h := qgw hp _ this
    rwa [show (sprd fun j => fi (nn p) (fn (B.getD i []) j)) = basS p Q i by rw [← hB]; rfl] at h
  generalize hC : ((List.range 4).map fun i => lstF (nn p) 100 (basS p Q i)) = C
  have lC : C.length = 4 := by rw [← hC]; simp
  have aC : ∀ i : Nat, i < 4 → zz C (i : Int) = lstF (nn p) 100 (basS p Q i) := fun i hi => by
    rw [qag, ← hC, List.getD_eq_getElem?_getD]; simp [hi]
  have hT : ∀ (F : Nat → Fq (nn p)) (i : Nat), i < 4 → Ev (fun k => qn.f k p (lstF (nn p) 100 F) (zz C (i : Int))) (lstF (nn p) 100 (mulP F (basS p Q i))) := fun F i hi => by rw [aC i hi]; exact qhp hp F _
  have h4 : ∀ (D : List (List Int)), D = ((List.range 20).map fun c => lstF (nn p) 100 (proT (basS p Q) c)) → ∀ (d i : Nat) (acc : List (List Int)), i + d = 100 → acc = (surT p Q).take i → Ev (fun q => ql.l4 q p D acc (i : Int)) (surP p Q) := by
    intro D hD
    have lD : D.length = 20 := by rw [hD]; simp
    have aD : ∀ c : Nat, c < 20 → zz D (c : Int) = lstF (nn p) 100 (proT (basS p Q) c) := fun c hc => by
      rw [qag, hD, List.getD_eq_getElem?_getD]; simp [hc]
    have h5 : ∀ (r : Nat) (acc : List (List Int)) (R : List Int), r < 100 → acc.length ≤ 1000 → Ev (fun q => ql.l4 q p D (acc ++ [lstF (nn p) 20 fun c => proT (basS p Q) c r]) ((r + 1 : Nat) : Int)) R → ∀ (d c : Nat) (row : List Int), c + d = 20 → row = lstF (nn p) c (fun c => proT (basS p Q) c r) → Ev (fun q => ql.l5 q p D acc (r : Int) row (c : Int)) R := by
      intro r acc R hr hacc hend d
      induction d with
      | zero =>
        intro c row hc hrow
        obtain rfl : c = 20 := by omega
        subst hrow
        refine Ev.step (fun q => by rw [ql.l5, if_neg (by omega), if_pos (by omega), wsm (by omega) (by omega)]) ?_
        exact hend
      | succ d ih =>
        intro c row hc hrow
        have hl : row.length = c := by rw [hrow, Je]
        refine Ev.step (fun q => by rw [ql.l5, if_pos (by omega), if_pos (by omega), if_pos (by omega), if_pos (by omega), aD c (by omega), if_pos (by rw [Je]; omega), if_pos (by omega), wsm (by omega) (by omega)]) ?_
        refine ih (c + 1) _ (by omega) ?_
        have e : rd (lstF (nn p) 100 (proT (basS p Q) c)) (r : Int) = (((proT (basS p Q) c r).val : Nat) : Int) := qet _ r hr
        rw [hrow, e, lstF, lstF, List.range_succ, List.map_append]
        rfl
    intro d
    induction d with
    | zero =>
      intro i acc hi hacc
      rw [List.take_of_length_le (by simp [surT]; omega)] at hacc
      subst hacc
      have hn : Ev (fun k => qm.f k p (surT p Q) 20) (Qt p 20 (surT p Q)) := qdg hp (w := 20) (by omega) (surT p Q) (by simp [surT]) (qef hp Q)
      refine Ev.step (fun q => by rw [ql.l4, if_neg (by omega)]) (Ev.bind hn ?_)
      have hne : 0 < (Qt p 20 (surT p Q)).length := List.length_pos_iff.2 (qi6 hg)
      refine Ev.yes (by omega) ?_
      rw [show ((0 : Int)) = ((0 : Nat) : Int) from rfl, qag]
      exact Ev.now _
    | succ d ih =>
      intro i acc hi hacc
      have hal : acc.length ≤ 1000 := by rw [hacc, List.length_take]; simp [surT]; omega
      refine Ev.step (fun q => by rw [ql.l4, if_pos (by omega)]) ?_
      refine h5 i acc _ (by omega) hal (ih (i + 1) _ (by omega) ?_) 20 0 [] rfl rfl
      rw [hacc, List.take_add_one, surT, List.getElem?_map, List.getElem?_range (by omega)]
      rfl
  have h3 : ∀ (i j : Nat) (acc : List (List Int)) (R : List Int), i < 4 → j < 4 → acc.length ≤ 1000 → ∀ (d k : Nat), k + d = 4 → acc.length ≤ 1000 - d → ∀ M, M = acc ++ (List.range' k d).map (fun k => lstF (nn p) 100 (mulP (mulP (basS p Q i) (basS p Q j)) (basS p Q k))) → Ev (fun q => ql.l2 q p C M (i : Int) ((j + 1 : Nat) : Int)) R → Ev (fun q => ql.l3 q p C acc (i : Int) (j : Int) (lstF (nn p) 100 (mulP (basS p Q i) (basS p Q j))) (k : Int)) R := by
    intro i j acc R hi hj ha d
    induction d generalizing acc with
    | zero =>
      intro k hk _ M hM hend
      simp at hM
      subst hM
      refine Ev.step (fun q => by rw [ql.l3, if_neg (by omega), wsm (by omega) (by omega)]) ?_
      exact hend
    | succ d ih =>
      intro k hk ha2 M hM hend
      refine Ev.step (fun q => by rw [ql.l3, if_pos (by omega), if_pos (by omega), if_pos (by omega)]) (Ev.bind (hT _ k (by omega)) ?_)
      refine Ev.yes (show acc.length < 5864062014805 by omega) ?_
      rw [wsm (by omega) (by omega)]
      refine ih (acc ++ [lstF (nn p) 100 (mulP (mulP (basS p Q i) (basS p Q j)) (basS p Q k))]) (by simp; omega) (k + 1) (by omega) (by simp; omega) M ?_ hend
      rw [hM, List.range'_succ]
      simp
  have h2 : ∀ (i : Nat) (R : List Int), i < 4 → ∀ (d j : Nat) (acc : List (List Int)), j + d = 4 → acc.length ≤ 900 - 20 * d → ∀ M, M = acc ++ ((List.range' j d).map fun j => (List.range' j (4 - j)).map (fun k => lstF (nn p) 100 (mulP (mulP (basS p Q i) (basS p Q j)) (basS p Q k)))).flatten → Ev (fun q => ql.l1 q p C M ((i + 1 : Nat) : Int)) R → Ev (fun q => ql.l2 q p C acc (i : Int) (j : Int)) R := by
    intro i R hi d
    induction d with
    | zero =>
      intro j acc hj _ M hM hend
      simp at hM
      subst hM
      refine Ev.step (fun q => by rw [ql.l2, if_neg (by omega), wsm (by omega) (by omega)]) ?_
      exact hend
    | succ d ih =>
      intro j acc hj ha M hM hend
      have ht := hT (basS p Q i) j (by omega)
      rw [← aC i hi] at ht
      refine Ev.step (fun q => by rw [ql.l2, if_pos (by omega), if_pos (by omega), if_pos (by omega), if_pos (by omega), if_pos (by omega)]) (Ev.bind ht ?_)
      refine h3 i j acc R hi (by omega) (by omega) (4 - j) j (by omega) (by omega) _ rfl (ih (j + 1) _ (by omega) (by simp; omega) M ?_ hend)
      rw [hM, List.range'_succ]
      simp
  have h1 : ∀ (R : List Int) (d i : Nat) (acc : List (List Int)), i + d = 4 → acc.length ≤ 800 - 100 * d → ∀ M, M = acc ++ ((List.range' i d).map fun i => ((List.range' i (4 - i)).map fun j => (List.range' j (4 - j)).map (fun k => lstF (nn p) 100 (mulP (mulP (basS p Q i) (basS p Q j)) (basS p Q k)))).flatten).flatten → Ev (fun q => ql.l4 q p M [] 0) R → Ev (fun q => ql.l1 q p C acc (i : Int)) R := by
    intro R d
    induction d with
    | zero =>
      intro i acc hi _ M hM hend
      simp at hM
      subst hM
      exact Ev.step (fun q => by rw [ql.l1, if_neg (by omega)]) hend
    | succ d ih =>
      intro i acc hi ha M hM hend
      refine Ev.step (fun q => by rw [ql.l1, if_pos (by omega)]) ?_
      have hlen : (((List.range' i (4 - i)).map fun j => (List.range' j (4 - j)).map (fun k => lstF (nn p) 100 (mulP (mulP (basS p Q i) (basS p Q j)) (basS p Q k)))).flatten).length ≤ 16 := by
        rcases (show i = 0 ∨ i = 1 ∨ i = 2 ∨ i = 3 by omega) with rfl | rfl | rfl | rfl <;> simp [List.range'] <;> omega
      refine h2 i R (by omega) (4 - i) i acc (by omega) (by omega) _ rfl (ih (i + 1) _ (by omega) (by rw [List.length_append]; omega) M ?_ hend)
      rw [hM, List.range'_succ]
      simp
  have h0 : ∀ (d i : Nat) (acc : List (List Int)), i + d = 4 → acc = C.take i → Ev (fun q => ql.l0 q p B acc (i : Int)) (surP p Q) := by
    intro d
    induction d with
    | zero =>
      intro i acc hi hacc
      rw [List.take_of_length_le (by omega)] at hacc
      subst hacc
      refine Ev.step (fun q => by rw [ql.l0, if_neg (by omega)]) ?_
      refine h1 _ 4 0 [] rfl (by simp) _ rfl (h4 _ ?_ 100 0 [] rfl rfl)
      rfl
    | succ d ih =>
      intro i acc hi hacc
      have hs := hS i (by omega)
      have hal : acc.length ≤ 1000 := by rw [hacc, List.length_take]; omega
      refine Ev.step (fun q => by rw [ql.l0, if_pos (by omega), if_pos (by omega), if_pos (by omega), qag]) (Ev.bind hs ?_)
      refine Ev.yes (show acc.length < 5864062014805 by omega) ?_
      rw [wsm (by omega) (by omega)]
      refine ih (i + 1) _ (by omega) ?_
      rw [hacc, List.take_add_one, ← hC, List.getElem?_map, List.getElem?_range (by omega)]
      rfl
  unfold ql.f
  have hbase := qgl hp l (by omega) (by rw [hQ]; exact hin)
  rw [hQ, hB] at hbase
  exact Ev.bind hbase (h0 4 0 [] rfl rfl)
end Go.Proofs.Ytmgbpmihbljngaa.PA
namespace Go.Proofs.Ytmgbpmihbljngaa.PA
open Go.RowKit Go.Proofs.YtmgbpmihbljngaaW.PrintWords Go.Proofs.YtmgbpmihbljngaaW.PrintLast Go.Proofs.YtmgbpmihbljngaaW.PrintMore
set_option linter.unusedVariables false
set_option linter.unusedSimpArgs false
def qkd (p s x u v y : Int) : Int := Int.tmod (wrap64 (s + (wrap64 ((Int.tmod (wrap64 ((Int.tmod (wrap64 (x * u)) p) * v)) p) * y)))) p
theorem qms (p s s0 x u v y : Int) (hp : 7 ≤ p ∧ p ≤ 31) (hs : s = s0 % p) (hx : 0 ≤ x ∧ x ≤ 30) (hu : 0 ≤ u ∧ u ≤ 30) (hv : 0 ≤ v ∧ v ≤ 30) (hy : 0 ≤ y ∧ y ≤ 30) : qkd p s x u v y = (s0 + x * (u * v) * y) % p := by
  have m1 := J0 hx.1 hx.2 hu.1 hu.2
  have n1 := Int.emod_nonneg (x * u) (show p ≠ 0 by omega)
  have n2 := Int.emod_lt_of_pos (x * u) (show 0 < p by omega)
  have m2 := J0 n1 (show (x * u) % p ≤ 30 by omega) hv.1 hv.2
  have n3 := Int.emod_nonneg ((x * u) % p * v) (show p ≠ 0 by omega)
  have n4 := Int.emod_lt_of_pos ((x * u) % p * v) (show 0 < p by omega)
  have m3 := J0 n3 (show (x * u) % p * v % p ≤ 30 by omega) hy.1 hy.2
  have n5 := Int.emod_nonneg s0 (show p ≠ 0 by omega)
  have n6 := Int.emod_lt_of_pos s0 (show 0 < p by omega)
  unfold qkd
  rw [wsm (i := x * u) (by omega) (by omega), Int.tmod_eq_emod_of_nonneg m1.1, wsm (i := (x * u) % p * v) (by omega) (by omega), Int.tmod_eq_emod_of_nonneg m2.1, wsm (i := (x * u) % p * v % p * y) (by omega) (by omega), hs, wsm (by omega) (by omega), Int.tmod_eq_emod_of_nonneg (by omega)]
  rw [Int.add_emod, Int.emod_emod, Int.mul_emod ((x * u) % p * v % p) y p, Int.emod_emod, Int.mul_emod ((x * u) % p) v p, Int.emod_emod, ← Int.mul_emod (x * u) v p, ← Int.mul_emod (x * u * v) y p, ← Int.add_emod, Int.mul_assoc x u v]
def sv2 (p : Int) (f a : List Int) (i j : Int) : Nat → Int → Int → Int → Int
  | 0, s, _, _ => s
  | d + 1, s, n, l => sv2 p f a i j d (qkd p s (rd f n) (rd a i) (rd a j) (rd a l)) (n + 1) (l + 1)
def sv1 (p : Int) (f a : List Int) (i : Int) : Nat → Int → Int → Int → Int
  | 0, s, _, _ => s
  | d + 1, s, n, j => sv1 p f a i d (sv2 p f a i j (d + 1) s n j) (n + (d + 1 : Nat)) (j + 1)
def sv0 (p : Int) (f a : List Int) : Nat → Int → Int → Int → Int
  | 0, s, _, _ => s
  | d + 1, s, n, i => sv0 p f a d (sv1 p f a i (d + 1) s n i) (n + tri (d + 1)) (i + 1)
theorem qm1 (p : Int) (f a : List Int) (hp : 7 ≤ p ∧ p ≤ 31) (hf : Jd f) (ha : Jd a) (i j : Int) : ∀ (d : Nat) (s s0 n l : Int), s = s0 % p → sv2 p f a i j d s n l = xs2 f a (rd a i * rd a j) d s0 n l % p
  | 0, s, s0, n, l, h => by rw [sv2, xs2, h]
  | d + 1, s, s0, n, l, h => by
    rw [sv2, xs2]
    exact qm1 p f a hp hf ha i j d _ _ _ _ (qms p s s0 _ _ _ _ hp h (hf n) (ha i) (ha j) (ha l))
theorem qne (p : Int) (f a : List Int) (hp : 7 ≤ p ∧ p ≤ 31) (hf : Jd f) (ha : Jd a) (i : Int) : ∀ (d : Nat) (s s0 n j : Int), s = s0 % p → sv1 p f a i d s n j = xs1 f a i d s0 n j % p
  | 0, s, s0, n, j, h => by rw [sv1, xs1, h]
  | d + 1, s, s0, n, j, h => by
    rw [sv1, xs1]
    exact qne p f a hp hf ha i d _ _ _ _ (qm1 p f a hp hf ha i j (d + 1) s s0 n j h)
theorem qmo (p : Int) (f a : List Int) (hp : 7 ≤ p ∧ p ≤ 31) (hf : Jd f) (ha : Jd a) : ∀ (d : Nat) (s s0 n i : Int), s = s0 % p → sv0 p f a d s n i = xs0 f a d s0 n i % p
  | 0, s, s0, n, i, h => by rw [sv0, xs0, h]
  | d + 1, s, s0, n, i, h => by
    rw [sv0, xs0]
    exact qmo p f a hp hf ha d _ _ _ _ (qne p f a hp hf ha i (d + 1) s s0 n i h)
theorem qgj (p : Int) (f a : List Int) (i j : Int) (hp : p ≠ 0) (hf : f.length = 20) (ha : a.length = 4) (hi : 0 ≤ i ∧ i < 4) (hj : 0 ≤ j ∧ j < 4) (r : Int) : ∀ (d : Nat) (s n l : Int), 0 ≤ n → n + d ≤ 20 → 0 ≤ l → l + d = 4 →
    Ev (fun k => qr.l1 k p f a (sv2 p f a i j d s n l) (n + d) i (wrap64 (j + 1))) r → Ev (fun k => qr.l2 k p f a s n i j l) r
  | 0, s, n, l, h1, h2, h3, h4, h => by
    refine Ev.step (f := fun k => qr.l1 k p f a s n i (wrap64 (j + 1))) (fun k => ?_) (by simpa [sv2] using h)
    rw [qr.l2, if_neg (by omega)]
  | d + 1, s, n, l, h1, h2, h3, h4, h => by
    refine Ev.step (f := fun k => qr.l2 k p f a (qkd p s (rd f n) (rd a i) (rd a j) (rd a l)) (n + 1) i j (l + 1)) (fun k => ?_) ?_
    · rw [qr.l2, if_pos (by omega), if_pos h1, if_pos (by omega), if_pos hi.1, if_pos (by omega), if_neg hp, if_pos hj.1, if_pos (by omega), if_pos h3, if_pos (by omega), wsm (i := n + 1) (by omega) (by omega), wsm (i := l + 1) (by omega) (by omega)]
      rfl
    · refine qgj p f a i j hp hf ha hi hj r d _ _ _ (by omega) (by omega) (by omega) (by omega) ?_
      rw [show n + 1 + (d : Int) = n + ((d + 1 : Nat) : Int) from by omega]
      exact h
theorem qga (p : Int) (f a : List Int) (i : Int) (hp : p ≠ 0) (hf : f.length = 20) (ha : a.length = 4) (hi : 0 ≤ i ∧ i < 4) (r : Int) : ∀ (d : Nat) (s n j : Int), 0 ≤ n → n + tri d ≤ 20 → 0 ≤ j → j + d = 4 →
    Ev (fun k => qr.l0 k p f a (sv1 p f a i d s n j) (n + tri d) (wrap64 (i + 1))) r → Ev (fun k => qr.l1 k p f a s n i j) r
  | 0, s, n, j, h1, h2, h3, h4, h => by
    refine Ev.step (f := fun k => qr.l0 k p f a s n (wrap64 (i + 1))) (fun k => ?_) (by simpa [sv1, tri] using h)
    rw [qr.l1, if_neg (by omega)]
  | d + 1, s, n, j, h1, h2, h3, h4, h => by
    rw [tri] at h2
    refine Ev.step (f := fun k => qr.l2 k p f a s n i j j) (fun k => ?_) ?_
    · rw [qr.l1, if_pos (by omega)]
    · refine qgj p f a i j hp hf ha hi (by omega) r (d + 1) _ _ _ (by omega) (by omega) (by omega) (by omega) ?_
      rw [wsm (i := j + 1) (by omega) (by omega)]
      refine qga p f a i hp hf ha hi r d _ _ _ (by omega) (by omega) (by omega) (by omega) ?_
      rw [show n + ((d + 1 : Nat) : Int) + (tri d : Int) = n + (tri (d + 1) : Int) from by rw [tri]; omega]
      exact h
theorem qb0 (p : Int) (f a : List Int) (hp : p ≠ 0) (hf : f.length = 20) (ha : a.length = 4) (r : Int) (d : Nat) (s n i : Int) (h1 : 0 ≤ n) (h2 : n + tri (d + 1) ≤ 20) (h3 : 0 ≤ i) (h4 : i + (d + 1 : Nat) = 4)
    (h : Ev (fun k => qr.l0 k p f a (sv1 p f a i (d + 1) s n i) (n + tri (d + 1)) (i + 1)) r) : Ev (fun k => qr.l0 k p f a s n i) r := by
  refine Ev.step (f := fun k => qr.l1 k p f a s n i i) (fun k => ?_) ?_
  · rw [qr.l0, if_pos (by omega)]
  · refine qga p f a i hp hf ha (by omega) r (d + 1) _ _ _ h1 h2 h3 h4 ?_
    rw [wsm (i := i + 1) (by omega) (by omega)]
    exact h
theorem qi5 (p : Int) (f a : List Int) (hp : p ≠ 0) (hf : f.length = 20) (ha : a.length = 4) : Ev (fun k => qr.f k p f a) (sv0 p f a 4 0 0 0) := by
  unfold qr.f
  refine qb0 p f a hp hf ha _ 3 _ _ _ (by omega) (by simp [tri]) (by omega) (by omega) ?_
  refine qb0 p f a hp hf ha _ 2 _ _ _ (by simp [tri]) (by simp [tri]) (by omega) (by omega) ?_
  refine qb0 p f a hp hf ha _ 1 _ _ _ (by simp [tri]) (by simp [tri]) (by omega) (by omega) ?_
  refine qb0 p f a hp hf ha _ 0 _ _ _ (by simp [tri]) (by simp [tri]) (by omega) (by omega) ?_
  refine Ev.step (f := fun _ => some (sv0 p f a 4 0 0 0)) (fun k => ?_) (Ev.now _)
  rw [qr.l0, if_neg (by omega)]
  rfl
theorem qlo (p : Int) (f a : List Int) (hp : 7 ≤ p ∧ p ≤ 31) (hf : f.length = 20) (ha : a.length = 4) (sf : Jd f) (sa : Jd a) : Ev (fun k => qr.f k p f a) (xval f a % p) := by
  have h := qi5 p f a (by omega) hf ha
  rwa [qmo p f a hp sf sa 4 0 0 0 0 (by simp)] at h
end Go.Proofs.Ytmgbpmihbljngaa.PA
namespace Go.Proofs.Ytmgbpmihbljngaa.PA
open Go.RowKit Go.Proofs.YtmgbpmihbljngaaW.PrintWords Go.Proofs.YtmgbpmihbljngaaW.PrintLast Go.Proofs.YtmgbpmihbljngaaW.PrintMore
set_option linter.unusedVariables false
set_option linter.unusedSimpArgs false
theorem qfl (p : Int) (l : List S43) (a : List Int) : Ev (fun k => jo.f k p l a) (hasP p (tps l) a) := by
  unfold jo.f hasP
  refine Ev.bind (Z0 p l) ?_
  cases hg : genB p (tps l) with
  | false => exact Ev.no (by simp) (Ev.now _)
  | true =>
    obtain ⟨hp, h6, ha, _⟩ := Qz hg
    have hb := zw hp
    refine Ev.yes rfl (Ev.bind (qjq p a) ?_)
    cases hpl : Q1 p a with
    | false => exact Ev.no (by simp) (Ev.now _)
    | true =>
      rw [Q1, Bool.and_eq_true] at hpl
      have hn := qem hg
      have hv := qlo p (surP p (tps l)) a ⟨by omega, by omega⟩ (Qo hn).2.1 (Qo hpl.1).2.1 (qap hn) (qap hpl.1)
      refine Ev.yes rfl (Ev.bind (qnv l hg) (Ev.bind hv ?_))
      exact Ev.now _
end Go.Proofs.Ytmgbpmihbljngaa.PA
namespace Go.Proofs.Ytmgbpmihbljngaa.PA
open Go.RowKit Go.Proofs.YtmgbpmihbljngaaW.PrintWords Go.Proofs.YtmgbpmihbljngaaW.PrintLast Go.Proofs.YtmgbpmihbljngaaW.PrintMore
set_option linter.unusedVariables false
set_option linter.unusedSimpArgs false
def qi4 (p : Int) (f a : List Int) : Int × Bool := if Zx p f 20 = true then (if Q1 p a = true then (xval f a % p, true) else (0, false)) else (0, false)
theorem qh5 {p : Int} {a : List Int} (h : Q1 p a = true) : Zx p a 4 = true := by
  unfold Q1 at h
  rw [Bool.and_eq_true] at h
  exact h.1
theorem qfw (p : Int) (f a : List Int) : Ev (fun k => j3.f k p f a) (qi4 p f a) := by
  unfold j3.f qi4
  refine Ev.bind (Ev.k (show z1.f p f 20 = some (Zx p f 20) from qai p f 20)) ?_
  cases hf : Zx p f 20
  · exact Ev.no (by simp) (Ev.now _)
  · refine Ev.yes rfl (Ev.bind (Ev.k (qe2 p a)) ?_)
    cases ha : Q1 p a
    · exact Ev.no (by simp) (Ev.now _)
    · have hn := qh5 ha
      obtain ⟨hp, hl, _⟩ := Qo hf
      exact Ev.yes rfl (Ev.bind (qf5 p f a (zw hp) hl (Qo hn).2.1 (qap hf) (qap hn)) (Ev.now _))
end Go.Proofs.Ytmgbpmihbljngaa.PA
namespace Go.Proofs.Ytmgbpmihbljngaa.PA
open Go.RowKit Go.Proofs.YtmgbpmihbljngaaW.PrintWords Go.Proofs.YtmgbpmihbljngaaW.PrintLast Go.Proofs.YtmgbpmihbljngaaW.PrintMore
set_option linter.unusedVariables false
set_option linter.unusedSimpArgs false
theorem qh9 (l : List Int) (h : ∀ x ∈ l, (Lit.int .u8 x).wf = true) : Ev (fun k => laws_FnHas.f k l) true := by
  obtain ⟨p, six, a, hd⟩ := qc5 l h
  have h1 := qei p six a
  have h2 := qfl p six a
  have h3 := qfu p six
  unfold laws_FnHas.f
  refine Ev.ite (fun _ => Ev.now _) (fun _ => Ev.bind hd (Ev.bind h1 (Ev.bind h2 (Ev.no (by simp) ?_))))
  cases hh : hasP p (tps six) a with
  | false => exact Ev.step (f := fun _ => some true) (fun q => by rw [laws_FnHas.j0, if_pos (by simp)]; rfl) (Ev.now _)
  | true =>
    have hh2 := hh
    unfold hasP at hh
    rw [Bool.and_eq_true, Bool.and_eq_true, beq_iff_eq] at hh
    obtain ⟨hg, hpl, hv⟩ := hh
    rw [qm4, if_pos hg] at h3
    have h4 := qfw p (surP p (tps six)) a
    rw [qi4, if_pos (qem hg), if_pos hpl, hv] at h4
    clear hh2 h1 h2 hv hpl
    generalize surP p (tps six) = F at h3 h4
    refine Ev.step (fun q => by rw [laws_FnHas.j0, if_neg (by simp)]) ?_
    refine Ev.bind h3 (Ev.bind h4 ?_)
    refine Ev.yes rfl (Ev.yes rfl ?_)
    exact Ev.now _
end Go.Proofs.Ytmgbpmihbljngaa.PA
namespace Go.Proofs.Ytmgbpmihbljngaa.Pure
open Go.RowKit Go.Proofs.Ytmgbpmihbljngaa.PA Go.Proofs.YtmgbpmihbljngaaW.PrintWords Go.Proofs.YtmgbpmihbljngaaW.PrintLast
theorem FnHas : laws_FnHas.Pure := by
  intro l
  intros
  first | exact (qh9 l).rounds | exact (qh9 l (by assumption)).rounds
end Go.Proofs.Ytmgbpmihbljngaa.Pure
