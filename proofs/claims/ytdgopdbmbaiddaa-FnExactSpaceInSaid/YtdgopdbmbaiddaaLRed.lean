/- Plain laws of what the printed functions compute. No conditions beside those that each states. -/
import Derived.Test.YtdgopdbmbaiddaaLBase
import Derived.Test.YtdgopdbmbaiddaaLRow1
import Derived.Test.YtdgopdbmbaiddaaWMore
namespace Go.Proofs.Ytdgopdbmbaiddaa.PA
open Go.RowKit Go.Proofs.YtdgopdbmbaiddaaW.PrintWords Go.Proofs.YtdgopdbmbaiddaaW.PrintLast Go.Proofs.YtdgopdbmbaiddaaW.PrintMore
set_option linter.unusedVariables false
set_option linter.unusedSimpArgs false

/-- a row less t times another one -/
def lessP (p t : Int) (h r : List Int) : List Int := List.zipWith (fun x y => (x - t * y) % p) r h
def scaleP (p b : Int) (r : List Int) : List Int := r.map fun x => x * b % p
/-- reduced rows: L the rows that are left, O those that are done -/
def redP (p : Int) : Nat → Nat → List (List Int) → List (List Int) → List (List Int)
  | 0, _, _, O => O
  | d + 1, c, L, O =>
    match L.findIdx? (fun row => rd row (c : Int) != 0) with
    | none => redP p d (c + 1) L O
    | some i => redP p d (c + 1) ((L.eraseIdx i).map fun r => lessP p (rd r (c : Int)) (scaleP p (invP p (rd (L.getD i []) (c : Int))) (L.getD i [])) r) ((O.map fun r => lessP p (rd r (c : Int)) (scaleP p (invP p (rd (L.getD i []) (c : Int))) (L.getD i [])) r) ++ [scaleP p (invP p (rd (L.getD i []) (c : Int))) (L.getD i [])])
/-- their columns -/
def headsP (p : Int) : Nat → Nat → List (List Int) → List Int → List Int
  | 0, _, _, H => H
  | d + 1, c, L, H =>
    match L.findIdx? (fun row => rd row (c : Int) != 0) with
    | none => headsP p d (c + 1) L H
    | some i => headsP p d (c + 1) ((L.eraseIdx i).map fun r => lessP p (rd r (c : Int)) (scaleP p (invP p (rd (L.getD i []) (c : Int))) (L.getD i [])) r) (H ++ [(c : Int)])
/-- rows of one length with numbers from 0 to p - 1 -/
def okR (p : Int) (w : Nat) (L : List (List Int)) : Prop := ∀ r ∈ L, r.length = w ∧ ∀ x ∈ r, 0 ≤ x ∧ x < p
theorem okR_nil (p : Int) (w : Nat) : okR p w [] := fun _ h => absurd h (by simp)
theorem okR_cons {p : Int} {w : Nat} {r : List Int} {L : List (List Int)} (h1 : r.length = w ∧ ∀ x ∈ r, 0 ≤ x ∧ x < p) (h2 : okR p w L) : okR p w (r :: L) := fun x hx => by
  rcases List.mem_cons.1 hx with rfl | hx
  · exact h1
  · exact h2 x hx
theorem okR_app {p : Int} {w : Nat} {L M : List (List Int)} (h1 : okR p w L) (h2 : okR p w M) : okR p w (L ++ M) := fun x hx => by
  rcases List.mem_append.1 hx with hx | hx
  · exact h1 x hx
  · exact h2 x hx
theorem less_ok {p t : Int} {w : Nat} {h r : List Int} (hp : 0 < p) (hh : h.length = w) (hr : r.length = w) : (lessP p t h r).length = w ∧ ∀ x ∈ lessP p t h r, 0 ≤ x ∧ x < p := by
  refine ⟨by simp [lessP, hh, hr], fun x hx => ?_⟩
  rw [lessP, List.mem_iff_getElem] at hx
  obtain ⟨i, hi, rfl⟩ := hx
  rw [List.getElem_zipWith]
  exact ⟨Int.emod_nonneg _ (by omega), Int.emod_lt_of_pos _ hp⟩
theorem scale_ok {p b : Int} {w : Nat} {r : List Int} (hp : 0 < p) (hr : r.length = w) : (scaleP p b r).length = w ∧ ∀ x ∈ scaleP p b r, 0 ≤ x ∧ x < p := by
  refine ⟨by simp [scaleP, hr], fun x hx => ?_⟩
  obtain ⟨y, _, rfl⟩ := List.mem_map.1 hx
  exact ⟨Int.emod_nonneg _ (by omega), Int.emod_lt_of_pos _ hp⟩
theorem mem_getD {L : List (List Int)} {i : Nat} (h : i < L.length) : L.getD i [] ∈ L := by
  rw [List.getD_eq_getElem?_getD, List.getElem?_eq_getElem h]; exact List.getElem_mem h
theorem okR_less {p : Int} {w : Nat} {L : List (List Int)} {h : List Int} (t : List Int → Int) (hp : 0 < p) (hh : h.length = w) (hL : okR p w L) : okR p w (L.map fun r => lessP p (t r) h r) := fun x hx => by
  obtain ⟨r, hr, rfl⟩ := List.mem_map.1 hx
  exact less_ok hp hh (hL r hr).1
theorem okR_erase {p : Int} {w : Nat} {L : List (List Int)} (i : Nat) (hL : okR p w L) : okR p w (L.eraseIdx i) := fun r hr => hL r (List.mem_of_mem_eraseIdx hr)
theorem find_lt {L : List (List Int)} {P : List Int → Bool} {i : Nat} (h : L.findIdx? P = some i) : i < L.length ∧ P (L.getD i []) = true := by
  rw [List.findIdx?_eq_some_iff_getElem] at h
  obtain ⟨hi, hp, _⟩ := h
  exact ⟨hi, by rw [List.getD_eq_getElem?_getD, List.getElem?_eq_getElem hi]; exact hp⟩
theorem ok_rd {p : Int} {w : Nat} {r : List Int} (h : r.length = w ∧ ∀ x ∈ r, 0 ≤ x ∧ x < p) (j : Nat) (hj : j < w) : 0 ≤ rd r (j : Int) ∧ rd r (j : Int) < p := by
  rw [rd_at r j (by omega)]; exact h.2 _ (List.getElem_mem _)
theorem rd_less {p t : Int} {h r : List Int} (j : Nat) (h1 : j < r.length) (h2 : j < h.length) : rd (lessP p t h r) (j : Int) = (rd r (j : Int) - t * rd h (j : Int)) % p := by
  rw [rd_at _ j (by simp [lessP]; omega), rd_at _ j h1, rd_at _ j h2]; simp [lessP]
theorem rd_scale {p b : Int} {r : List Int} (j : Nat) (h1 : j < r.length) : rd (scaleP p b r) (j : Int) = rd r (j : Int) * b % p := by
  rw [rd_at _ j (by simp [scaleP]; omega), rd_at _ j h1]; simp [scaleP]
theorem ext_rd {a b : List Int} {w : Nat} (ha : a.length = w) (hb : b.length = w) (h : ∀ j : Nat, j < w → rd a (j : Int) = rd b (j : Int)) : a = b := by
  refine List.ext_getElem (by omega) fun j h1 h2 => ?_
  have := h j (by omega)
  rwa [rd_at a j h1, rd_at b j h2] at this

end Go.Proofs.Ytdgopdbmbaiddaa.PA
