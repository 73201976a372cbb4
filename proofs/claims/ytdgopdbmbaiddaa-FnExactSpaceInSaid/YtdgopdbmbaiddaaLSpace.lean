/- Plain laws of what the printed functions compute. No conditions beside those that each states. -/
import Derived.Test.YtdgopdbmbaiddaaLPrim
import Derived.Test.YtdgopdbmbaiddaaLRed
import Derived.Test.YtdgopdbmbaiddaaLRow1
import Derived.Test.YtdgopdbmbaiddaaWMore
namespace Go.Proofs.Ytdgopdbmbaiddaa.PA
open Go.RowKit Go.Proofs.YtdgopdbmbaiddaaW.PrintWords Go.Proofs.YtdgopdbmbaiddaaW.PrintLast Go.Proofs.YtdgopdbmbaiddaaW.PrintMore
set_option linter.unusedVariables false
set_option linter.unusedSimpArgs false

theorem redP_len (p : Int) : ∀ (d c : Nat) (L O : List (List Int)), (redP p d c L O).length ≤ L.length + O.length
  | 0, _, L, O => by rw [redP]; omega
  | d + 1, c, L, O => by
    rw [redP]
    split
    · exact redP_len p d (c + 1) L O
    · next i hf =>
      have hi := (find_lt hf).1
      refine Nat.le_trans (redP_len p d (c + 1) _ _) ?_
      simp [List.length_eraseIdx, hi]
      omega
theorem redP_ok {p : Int} (hp : 0 < p) {w : Nat} : ∀ (d c : Nat) (L O : List (List Int)), okR p w L → okR p w O → okR p w (redP p d c L O)
  | 0, _, L, O, _, hO => by rw [redP]; exact hO
  | d + 1, c, L, O, hL, hO => by
    rw [redP]
    split
    · exact redP_ok hp d (c + 1) L O hL hO
    · next i hf =>
      have hi := (find_lt hf).1
      have hs := scale_ok (p := p) (b := invP p (rd (L.getD i []) (c : Int))) hp (hL _ (mem_getD hi)).1
      exact redP_ok hp d (c + 1) _ _ (okR_less _ hp hs.1 (okR_erase i hL)) (okR_app (okR_less _ hp hs.1 hO) (okR_cons hs (okR_nil p w)))
/-- the reduced rows, one after the other -/
def spanP (p : Int) (w : Nat) (L : List (List Int)) : List Int := (redP p w 0 L []).flatten
def rankP (p : Int) (w : Nat) (L : List (List Int)) : Nat := (redP p w 0 L []).length
theorem flat_len {w : Nat} : ∀ (M : List (List Int)), (∀ r ∈ M, r.length = w) → M.flatten.length = M.length * w
  | [], _ => by simp
  | r :: M, h => by
    rw [List.flatten_cons, List.length_append, h r (by simp), flat_len M (fun x hx => h x (by simp [hx])), List.length_cons, Nat.add_mul, Nat.one_mul, Nat.add_comm]
theorem spanP_len {p : Int} (hp : 0 < p) {w : Nat} {L : List (List Int)} (hL : okR p w L) : (spanP p w L).length = rankP p w L * w := flat_len _ (fun r hr => (redP_ok hp w 0 L [] hL (okR_nil p w) r hr).1)
/-- a list of eight numbers is a line of space -/
def lineB (p : Int) (l : List Int) : Bool := numsB p l 8 && decide (spanP p 4 [l.take 4, l.drop 4] = l)
theorem halves_ok {p : Int} {l : List Int} (h : numsB p l 8 = true) : okR p 4 [l.take 4, l.drop 4] := by
  obtain ⟨_, hl, hx⟩ := numsB_prime h
  refine okR_cons ⟨by simp; omega, fun x hx' => hx x (List.mem_of_mem_take hx')⟩ (okR_cons ⟨by simp; omega, fun x hx' => hx x (List.mem_of_mem_drop hx')⟩ (okR_nil p 4))
theorem line_nums {p : Int} {l : List Int} (h : lineB p l = true) : numsB p l 8 = true := by
  rw [lineB, Bool.and_eq_true] at h; exact h.1
theorem line_rank {p : Int} {l : List Int} (h : lineB p l = true) : rankP p 4 [l.take 4, l.drop 4] = 2 := by
  have hn := line_nums h
  have hb := prime_bd (numsB_prime hn).1
  rw [lineB, Bool.and_eq_true] at h
  have h2 := of_decide_eq_true h.2
  have h3 := spanP_len (w := 4) (by omega) (halves_ok hn)
  rw [h2, (numsB_prime hn).2.1] at h3
  omega

end Go.Proofs.Ytdgopdbmbaiddaa.PA
