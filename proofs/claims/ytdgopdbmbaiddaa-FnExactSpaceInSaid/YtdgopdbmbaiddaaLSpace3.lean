/- Plain laws of what the printed functions compute. No conditions beside those that each states. -/
import Derived.Test.YtdgopdbmbaiddaaLBase
import Derived.Test.YtdgopdbmbaiddaaLPrim
import Derived.Test.YtdgopdbmbaiddaaLRed
import Derived.Test.YtdgopdbmbaiddaaLRed1
import Derived.Test.YtdgopdbmbaiddaaLSpace
import Derived.Test.YtdgopdbmbaiddaaPAx0
import Derived.Test.YtdgopdbmbaiddaaPAx4
import Derived.Test.YtdgopdbmbaiddaaPAx7
import Derived.Test.YtdgopdbmbaiddaaWMore
namespace Go.Proofs.Ytdgopdbmbaiddaa.PA
open Go.RowKit Go.Proofs.YtdgopdbmbaiddaaW.PrintWords Go.Proofs.YtdgopdbmbaiddaaW.PrintLast Go.Proofs.YtdgopdbmbaiddaaW.PrintMore
set_option linter.unusedVariables false
set_option linter.unusedSimpArgs false

theorem spanOf_l (M : List (List Int)) {w : Nat} (hw : w ≤ 1000) (hM : ∀ r ∈ M, r.length = w) (hl : M.length ≤ 1000000) : ∀ (d i : Nat), i + d = M.length → Ev (fun k => impl_spanOf.l0 k (M.take i).flatten M (M.length : Int) (i : Int)) M.flatten
  | 0, i, h => by
    refine Ev.step (f := fun _ => some M.flatten) (fun k => ?_) (Ev.now _)
    rw [impl_spanOf.l0, if_neg (by omega), List.take_of_length_le (by omega)]
  | d + 1, i, h => by
    have hi : i < M.length := by omega
    refine Ev.step (f := fun k => impl_spanOf.l0 k (M.take (i + 1)).flatten M (M.length : Int) ((i + 1 : Nat) : Int)) (fun k => ?_) (spanOf_l M hw hM hl d (i + 1) (by omega))
    have e1 : (M.take (i + 1)).flatten = (M.take i).flatten ++ M.getD i [] := by
      rw [List.take_add_one, List.flatten_append, List.getD_eq_getElem?_getD, List.getElem?_eq_getElem hi]; simp
    have e2 : rd_L1 M (i : Int) = M.getD i [] := by simp [rd_L1]
    have h1 : (M.take i).flatten.length = i * w := by rw [flat_len _ (fun r hr => hM r (List.mem_of_mem_take hr)), List.length_take, Nat.min_eq_left (by omega)]
    have h2 : (M.getD i []).length = w := hM _ (mem_getD hi)
    have h3 : i * w ≤ 1000000 * 1000 := Nat.mul_le_mul (by omega) hw
    rw [impl_spanOf.l0, if_pos (by omega), if_pos (by omega), if_pos (by omega), e2, if_pos (by omega), e1, wsm (by omega) (by omega)]
    rfl
theorem spanOf_ev {p : Int} (hp : primeB p = true) {w : Nat} (hw : w ≤ 1000) (L : List (List Int)) (hL : okR p w L) (hl : L.length ≤ 1000) : Ev (fun k => impl_spanOf.f k p L) (spanP p w L) := by
  unfold impl_spanOf.f
  have hb := prime_bd hp
  have hlen := redP_len p w 0 L []
  simp at hlen
  refine Ev.bind (reduced_ok hp L (by omega) (by omega) hL) ?_
  have h := spanOf_l (redP p w 0 L []) hw (fun r hr => (redP_ok (by omega) w 0 L [] hL (okR_nil p w) r hr).1) (by omega) (redP p w 0 L []).length 0 (by omega)
  simpa [spanP] using h
theorem rowsOf_eq (l : List Int) (h : 4 ≤ l.length) : impl_rowsOf.f l = some [l.take 4, l.drop 4] := by
  rw [impl_rowsOf.f, if_pos (by omega)]

end Go.Proofs.Ytdgopdbmbaiddaa.PA
