/- Plain laws of what the printed functions compute. No conditions beside those that each states. -/
import Derived.Test.YtdgopdbmbaiddaaLBase
import Derived.Test.YtdgopdbmbaiddaaLDraw
import Derived.Test.YtdgopdbmbaiddaaPAx4
import Derived.Test.YtdgopdbmbaiddaaWMore
namespace Go.Proofs.Ytdgopdbmbaiddaa.PA
open Go.RowKit Go.Proofs.YtdgopdbmbaiddaaW.PrintWords Go.Proofs.YtdgopdbmbaiddaaW.PrintLast Go.Proofs.YtdgopdbmbaiddaaW.PrintMore
set_option linter.unusedVariables false
set_option linter.unusedSimpArgs false

theorem bits_xor_nonneg (x y : Int) (hx : 0 ≤ x) (hy : 0 ≤ y) (hx2 : x < 2 ^ 40) (hy2 : y < 2 ^ 40) : 0 ≤ Go.bits .xor .i64 x y := by
  obtain ⟨a, rfl⟩ := Int.eq_ofNat_of_zero_le hx
  obtain ⟨b, rfl⟩ := Int.eq_ofNat_of_zero_le hy
  have ha : a < 2 ^ 40 := by omega
  have hb : b < 2 ^ 40 := by omega
  have hc := Nat.xor_lt_two_pow ha hb
  have e : (BitVec.ofInt 64 (a : Int) ^^^ BitVec.ofInt 64 (b : Int)).toNat = a ^^^ b := by
    rw [BitVec.toNat_xor, BitVec.ofInt_natCast, BitVec.ofInt_natCast, BitVec.toNat_ofNat, BitVec.toNat_ofNat, Nat.mod_eq_of_lt (by omega), Nat.mod_eq_of_lt (by omega)]
  show 0 ≤ IntKind.wrap .i64 (((BitVec.ofInt 64 (a : Int) ^^^ BitVec.ofInt 64 (b : Int)).toNat : Nat) : Int)
  rw [e]
  generalize a ^^^ b = c at hc
  have hm : ((c : Int)) % (2 ^ 64 : Int) = c := by omega
  simp only [IntKind.wrap, IntKind.bits, IntKind.signed, hm]
  rw [if_neg (by simp; omega)]
  omega
theorem rd_byte {b : List Int} (h : bytesOk b) (i : Int) : 0 ≤ rd b i ∧ rd b i ≤ 255 := by
  unfold rd
  rw [List.getD_eq_getElem?_getD]
  cases hi : b[i.toNat]? with
  | none => simp
  | some x => exact h.2 x (List.mem_of_getElem? hi)
theorem pick_ev (b : List Int) (h : bytesOk b) (p n : Int) (hp : 0 ≤ p) (hp2 : p ≤ 1000000) : ∃ v, Ev (fun k => spec_l6Rd_pick.f k b p n) (v, p + 1) ∧ 0 ≤ v ∧ (1 ≤ n → v < n) := by
  have w1 : wrap64 (p + 1) = p + 1 := wsm (by omega) (by omega)
  have w2 : wrap64 (p + 1 - 1) = p := by rw [wsm (by omega) (by omega)]; omega
  unfold spec_l6Rd_pick.f
  by_cases hn : n < 1
  · refine ⟨0, Ev.yes hn ?_, by omega, by omega⟩
    refine Ev.step (f := fun _ => some (0, p + 1)) (fun k => ?_) (Ev.now _)
    rw [spec_l6Rd_pick.j0, if_pos rfl, w1]
  · by_cases hb : b.length = 0
    · refine ⟨0, Ev.no hn ?_, by omega, by omega⟩
      refine Ev.step (f := fun _ => some (0, p + 1)) (fun k => ?_) (Ev.now _)
      rw [spec_l6Rd_pick.j0, if_pos (by simp [hb]), w1]
    · have hbf : ¬ ((b.length : Int) == 0) = true := by simp; intro e; simp [e] at hb
      have hb0 : ¬ (b.length : Int) = 0 := by omega
      by_cases hlt : p < (b.length : Int)
      · have hr := rd_byte h p
        refine ⟨Int.tmod (rd b p) n, Ev.no hn ?_, Int.tmod_nonneg _ hr.1, fun _ => Int.tmod_lt_of_pos _ (by omega)⟩
        refine Ev.step (f := fun _ => some (Int.tmod (rd b p) n, p + 1)) (fun k => ?_) (Ev.now _)
        rw [spec_l6Rd_pick.j0, if_neg hbf, w1, w2, if_pos hlt, if_pos hp, if_neg (by omega), wsm (by omega) (by omega)]
      · have hlp : 0 < (b.length : Int) := by omega
        have hi1 := Int.tmod_nonneg (b.length : Int) hp
        have hi2 := Int.tmod_lt_of_pos p hlp
        have w3 : wrap64 (wrap64 (p * 7) + 3) = p * 7 + 3 := by rw [wsm (i := p * 7) (by omega) (by omega), wsm (by omega) (by omega)]
        have hj1 := Int.tmod_nonneg (b.length : Int) (a := p * 7 + 3) (by omega)
        have hj2 := Int.tmod_lt_of_pos (p * 7 + 3) hlp
        have r1 := rd_byte h (Int.tmod p (b.length : Int))
        have r2 := rd_byte h (Int.tmod (p * 7 + 3) (b.length : Int))
        have hq0 : 0 ≤ Int.tdiv p (b.length : Int) := Int.tdiv_nonneg hp (by omega)
        have hq1 : Int.tdiv p (b.length : Int) ≤ p := by rw [Int.tdiv_eq_ediv_of_nonneg hp]; exact Int.ediv_le_self _ hp
        have e := @spec_l6Rd_pick.j0.eq_2
        generalize hx : wrap64 (wrap64 (wrap64 (wrap64 (wrap64 (rd b (Int.tmod p (b.length : Int))) * 131) + wrap64 (wrap64 (rd b (Int.tmod (p * 7 + 3) (b.length : Int))) * 1117)) + wrap64 (p * 29)) + wrap64 (wrap64 (Int.tdiv p (b.length : Int)) * 53)) = X
        have hX : 0 ≤ X ∧ X < 2 ^ 40 := by
          rw [← hx]
          generalize rd b (Int.tmod p (b.length : Int)) = y1 at r1
          generalize rd b (Int.tmod (p * 7 + 3) (b.length : Int)) = y2 at r2
          generalize Int.tdiv p (b.length : Int) = y3 at hq0 hq1
          rw [wsm (i := y1) (by omega) (by omega), wsm (i := y2) (by omega) (by omega), wsm (i := y3) (by omega) (by omega), wsm (i := y1 * 131) (by omega) (by omega), wsm (i := y2 * 1117) (by omega) (by omega), wsm (i := y3 * 53) (by omega) (by omega), wsm (i := p * 29) (by omega) (by omega), wsm (i := y1 * 131 + y2 * 1117) (by omega) (by omega), wsm (i := y1 * 131 + y2 * 1117 + p * 29) (by omega) (by omega), wsm (by omega) (by omega)]
          omega
        have hd : 0 ≤ Int.tdiv X 64 ∧ Int.tdiv X 64 ≤ X := by rw [Int.tdiv_eq_ediv_of_nonneg hX.1]; omega
        have hxor := bits_xor_nonneg X (wrap64 (Int.tdiv X 64)) hX.1 (by rw [wsm (by omega) (by omega)]; omega) hX.2 (by rw [wsm (by omega) (by omega)]; omega)
        refine ⟨Int.tmod (Go.bits .xor .i64 X (wrap64 (Int.tdiv X 64))) n, Ev.no hn ?_, Int.tmod_nonneg _ hxor, fun _ => Int.tmod_lt_of_pos _ (by omega)⟩
        refine Ev.step (f := fun _ => some (Int.tmod (Go.bits .xor .i64 X (wrap64 (Int.tdiv X 64))) n, p + 1)) (fun k => ?_) (Ev.now _)
        rw [spec_l6Rd_pick.j0, if_neg hbf, w1, w2, if_neg hlt, if_neg hb0, if_pos hi1, if_pos hi2, w3, if_pos hj1, if_pos hj2, if_neg (by omega), hx]

end Go.Proofs.Ytdgopdbmbaiddaa.PA
