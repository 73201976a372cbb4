/- Plain laws of what the printed functions compute. No conditions beside those that each states. -/
import Derived.Test.YtdgopdbmbaiddaaLBase
import Derived.Test.YtdgopdbmbaiddaaLPrim
import Derived.Test.YtdgopdbmbaiddaaLRed
import Derived.Test.YtdgopdbmbaiddaaLRed1
import Derived.Test.YtdgopdbmbaiddaaLRow1
import Derived.Test.YtdgopdbmbaiddaaLRow2
import Derived.Test.YtdgopdbmbaiddaaPAx0
import Derived.Test.YtdgopdbmbaiddaaPAx1
import Derived.Test.YtdgopdbmbaiddaaPAx2
import Derived.Test.YtdgopdbmbaiddaaPAx3
import Derived.Test.YtdgopdbmbaiddaaPAx4
import Derived.Test.YtdgopdbmbaiddaaPAx6
import Derived.Test.YtdgopdbmbaiddaaWMore
namespace Go.Proofs.Ytdgopdbmbaiddaa.PA
open Go.RowKit Go.Proofs.YtdgopdbmbaiddaaW.PrintWords Go.Proofs.YtdgopdbmbaiddaaW.PrintLast Go.Proofs.YtdgopdbmbaiddaaW.PrintMore
set_option linter.unusedVariables false
set_option linter.unusedSimpArgs false

theorem l4Mod_eq (p x : Int) (hp : p ≠ 0) : spec_l4Mod.f p x = some (modV p x) := by rw [spec_l4Mod.f, if_neg hp]; rfl
theorem l4Less_l {p t : Int} {w : Nat} (hp : 7 ≤ p ∧ p ≤ 31) (ht : 0 ≤ t ∧ t < p) {h r : List Int} (hh : h.length = w ∧ ∀ x ∈ h, 0 ≤ x ∧ x < p) (hr : r.length = w ∧ ∀ x ∈ r, 0 ≤ x ∧ x < p) (hw : w ≤ 1000) : ∀ (d i : Nat), i + d = w → Ev (fun k => spec_l4Less.l0 k p r t h ((lessP p t h r).take i) (i : Int)) (lessP p t h r)
  | 0, i, he => by
    have hl := (less_ok (p := p) (t := t) (by omega) hh.1 hr.1).1
    refine Ev.step (f := fun _ => some (lessP p t h r)) (fun k => ?_) (Ev.now _)
    rw [spec_l4Less.l0, if_neg (by omega), List.take_of_length_le (by omega)]
  | d + 1, i, he => by
    have hl := (less_ok (p := p) (t := t) (by omega) hh.1 hr.1).1
    have hx := ok_rd hr i (by omega)
    have hy := ok_rd hh i (by omega)
    have hm := mul30 hp.2 ht.1 ht.2 hy.1 hy.2
    refine Ev.step (f := fun k => spec_l4Less.l0 k p r t h ((lessP p t h r).take (i + 1)) ((i + 1 : Nat) : Int)) (fun k => ?_) (l4Less_l hp ht hh hr hw d (i + 1) (by omega))
    rw [spec_l4Less.l0, if_pos (by omega), if_pos (by omega), if_pos (by omega), l4Mod_eq _ _ (by omega), Option.bind_some, if_pos (by simp; omega), wsm (i := (i : Int) + 1) (by omega) (by omega), wsm (i := t * rd h (i : Int)) (by omega) (by omega), tmod_small hp (by omega) (by omega)]
    have e : (lessP p t h r).take (i + 1) = (lessP p t h r).take i ++ [(rd r (i : Int) - t * rd h (i : Int)) % p] := by
      rw [List.take_add_one, List.getElem?_eq_getElem (by omega), ← rd_at (lessP p t h r) i (by omega), rd_less i (by omega) (by omega)]
      rfl
    rw [e]
    rfl
theorem l4Less_ev {p t : Int} {w : Nat} (hp : 7 ≤ p ∧ p ≤ 31) (ht : 0 ≤ t ∧ t < p) {h r : List Int} (hh : h.length = w ∧ ∀ x ∈ h, 0 ≤ x ∧ x < p) (hr : r.length = w ∧ ∀ x ∈ r, 0 ≤ x ∧ x < p) (hw : w ≤ 1000) : Ev (fun k => spec_l4Less.f k p r t h) (lessP p t h r) := by
  unfold spec_l4Less.f
  simpa using l4Less_l hp ht hh hr hw w 0 (by omega)
theorem rdL_at (L : List (List Int)) (i : Nat) : rd_L1 L (i : Int) = L.getD i [] := by simp [rd_L1]
theorem headP_at : ∀ (l : List Int) (c : Nat), c < l.length → (∀ j : Nat, j < c → rd l (j : Int) = 0) → rd l (c : Int) ≠ 0 → headP l = rd l (c : Int)
  | [], c, h, _, _ => absurd h (by simp)
  | x :: l, 0, _, _, hn => by
    have e : rd (x :: l) ((0 : Nat) : Int) = x := by simp [rd]
    rw [e] at hn ⊢
    rw [headP_cons, if_neg hn]
  | x :: l, c + 1, h, hz, hn => by
    have e : ∀ j : Nat, rd (x :: l) ((j + 1 : Nat) : Int) = rd l (j : Int) := fun j => by simp [rd]
    have h0 : x = 0 := by have := hz 0 (by omega); simpa [rd] using this
    rw [headP_cons, if_pos h0, e]
    exact headP_at l c (by simpa using h) (fun j hj => by rw [← e]; exact hz (j + 1) (by omega)) (by rw [← e]; exact hn)
theorem rowP_at {p : Int} {l : List Int} {c : Nat} (hc : c < l.length) (hz : ∀ j : Nat, j < c → rd l (j : Int) = 0) (hn : rd l (c : Int) ≠ 0) : rowP p l = scaleP p (invP p (rd l (c : Int))) l := by
  rw [rowP, headP_at l c hc hz hn, scaleP]
/-- zeros ahead of column c -/
def zeroTo (c : Nat) (L : List (List Int)) : Prop := ∀ r ∈ L, ∀ j : Nat, j < c → rd r (j : Int) = 0
theorem zeroTo_next {p : Int} (hp : primeB p = true) {w c : Nat} (hc : c < w) {L : List (List Int)} (hL : okR p w L) (hz : zeroTo c L) {i : Nat} (hf : L.findIdx? (fun row => rd row (c : Int) != 0) = some i) :
    zeroTo (c + 1) ((L.eraseIdx i).map fun r => lessP p (rd r (c : Int)) (scaleP p (invP p (rd (L.getD i []) (c : Int))) (L.getD i [])) r) := by
  intro r hr j hj
  obtain ⟨q, hq, rfl⟩ := List.mem_map.1 hr
  have hq' := List.mem_of_mem_eraseIdx hq
  obtain ⟨hi, hne⟩ := find_lt hf
  have hx := hL _ (mem_getD hi)
  have hxr := ok_rd hx c hc
  have hne' : rd (L.getD i []) (c : Int) ≠ 0 := by simpa using hne
  have hql := (hL q hq').1
  rw [rd_less j (by omega) (by rw [(scale_ok (by have := prime_bd hp; omega) hx.1).1]; omega), rd_scale j (by omega)]
  by_cases e : j = c
  · subst e
    rw [(invP_spec hp hxr.1 hxr.2).2.2.2.1 hne', Int.mul_one, Int.sub_self, Int.zero_emod]
  · rw [hz q hq' j (by omega), hz _ (mem_getD hi) j (by omega)]
    simp
theorem zeroTo_none {c : Nat} {L : List (List Int)} (hz : zeroTo c L) (hf : L.findIdx? (fun row => rd row (c : Int) != 0) = none) : zeroTo (c + 1) L := by
  intro r hr j hj
  by_cases e : j = c
  · subst e
    have := List.findIdx?_eq_none_iff.1 hf r hr
    simpa using this
  · exact hz r hr j (by omega)
/-- the search -/
theorem search_ev {p : Int} {w : Nat} {rows out : List (List Int)} {heads : List Int} {c : Nat} {R : List (List Int) × List Int} (hc : c < w) (hw : w ≤ 1000) (hlen : rows.length < 1000000) (hr : ∀ r ∈ rows, r.length = w)
    (hnone : rows.findIdx? (fun row => rd row (c : Int) != 0) = none → Ev (fun k => spec_l4Reduce.l0 k p rows (w : Int) out heads ((c + 1 : Nat) : Int)) R)
    (hsome : ∀ i, rows.findIdx? (fun row => rd row (c : Int) != 0) = some i → Ev (fun k => (spec_l4Row.f k p (rows.getD i [])).bind fun t => spec_l4Reduce.l2 k p rows (w : Int) out heads (c : Int) (i : Int) t [] 0) R) :
    ∀ (d i : Nat), i + d = rows.length → (rows.take i).findIdx? (fun row => rd row (c : Int) != 0) = none → Ev (fun k => spec_l4Reduce.l1 k p rows (w : Int) out heads (c : Int) (-1) (i : Int)) R
  | 0, i, he, hf => by
    have hf' : rows.findIdx? (fun row => rd row (c : Int) != 0) = none := by rwa [List.take_of_length_le (by omega)] at hf
    refine Ev.step (f := fun k => spec_l4Reduce.j2 k p rows (w : Int) out heads (c : Int) (-1) (i : Int) false) (fun k => ?_) ?_
    · rw [spec_l4Reduce.l1, if_neg (by omega)]
    · refine Ev.step (f := fun k => spec_l4Reduce.l0 k p rows (w : Int) out heads ((c + 1 : Nat) : Int)) (fun k => ?_) (hnone hf')
      rw [spec_l4Reduce.j2, if_neg (by simp), if_pos (by omega), wsm (by omega) (by omega)]
      rfl
  | d + 1, i, he, hf => by
    have hi : i < rows.length := by omega
    have hrl : (rows.getD i []).length = w := hr _ (mem_getD hi)
    refine Ev.step (f := fun k => spec_l4Reduce.j2 k p rows (w : Int) out heads (c : Int) (-1) (i : Int) true) (fun k => ?_) ?_
    · rw [spec_l4Reduce.l1, if_pos (by omega)]; rfl
    · by_cases hz : rd (rows.getD i []) (c : Int) = 0
      · refine Ev.step (f := fun k => spec_l4Reduce.l1 k p rows (w : Int) out heads (c : Int) (-1) ((i + 1 : Nat) : Int)) (fun k => ?_) (search_ev hc hw hlen hr hnone hsome d (i + 1) (by omega) ?_)
        · rw [spec_l4Reduce.j2, if_pos rfl, if_pos (by omega), if_pos (by omega), if_pos (by omega), rdL_at, if_pos (by omega), if_pos hz, wsm (by omega) (by omega)]
          rfl
        · rw [List.take_add_one, List.findIdx?_append, hf, List.getElem?_eq_getElem hi]
          rw [List.getD_eq_getElem?_getD, List.getElem?_eq_getElem hi] at hz
          simp only [Option.getD_some] at hz
          simp [List.findIdx?_cons, hz]
      · have hfi : rows.findIdx? (fun row => rd row (c : Int) != 0) = some i := by
          rw [List.getD_eq_getElem?_getD, List.getElem?_eq_getElem hi] at hz
          simp only [Option.getD_some] at hz
          have hsplit : rows = rows.take i ++ rows[i] :: rows.drop (i + 1) := by rw [List.getElem_cons_drop, List.take_append_drop]
          rw [hsplit, List.findIdx?_append, hf]
          have hz' : (rd rows[i] (c : Int) != 0) = true := bne_iff_ne.mpr hz
          rw [List.findIdx?_cons, hz']
          simp only [if_true, Option.map_some, Option.none_or, List.length_take, Nat.zero_add]
          rw [Nat.min_eq_left (by omega)]
        have hs := hsome i hfi
        have hfin : ∀ q : Nat, Ev (fun k => spec_l4Reduce.j2 k p rows (w : Int) out heads (c : Int) (i : Int) (q : Int) false) R := fun q => by
          refine Ev.step (f := fun k => (spec_l4Row.f k p (rows.getD i [])).bind fun t => spec_l4Reduce.l2 k p rows (w : Int) out heads (c : Int) (i : Int) t [] 0) (fun k => ?_) hs
          rw [spec_l4Reduce.j2, if_neg (by simp), if_neg (by omega), if_pos (by omega), if_pos (by omega), rdL_at]
        refine Ev.step (f := fun k => spec_l4Reduce.l1 k p rows (w : Int) out heads (c : Int) (i : Int) ((i + 1 : Nat) : Int)) (fun k => ?_) ?_
        · rw [spec_l4Reduce.j2, if_pos rfl, if_pos (by omega), if_pos (by omega), if_pos (by omega), rdL_at, if_pos (by omega), if_neg hz, wsm (by omega) (by omega)]
          rfl
        · refine Ev.step (f := fun k => spec_l4Reduce.j2 k p rows (w : Int) out heads (c : Int) (i : Int) ((i + 1 : Nat) : Int) false) (fun k => ?_) (hfin (i + 1))
          rw [spec_l4Reduce.l1]
          split
          · rw [decide_eq_false (by omega)]
          · rfl
/-- the rows that are left are lessened -/
theorem rest_ev {p : Int} {w : Nat} (hp : 7 ≤ p ∧ p ≤ 31) {rows out : List (List Int)} {heads : List Int} {c at_ : Nat} {row : List Int} {R : List (List Int) × List Int} (hc : c < w) (hw : w ≤ 1000) (hlen : rows.length < 1000000) (hr : okR p w rows) (hrow : row.length = w ∧ ∀ x ∈ row, 0 ≤ x ∧ x < p) (hat : at_ < rows.length)
    (hend : Ev (fun k => spec_l4Reduce.l3 k p ((rows.eraseIdx at_).map fun r => lessP p (rd r (c : Int)) row r) (w : Int) out heads (c : Int) row 0) R) :
    ∀ (d i : Nat), i + d = rows.length → Ev (fun k => spec_l4Reduce.l2 k p rows (w : Int) out heads (c : Int) (at_ : Int) row (((rows.take i).eraseIdx at_).map fun r => lessP p (rd r (c : Int)) row r) (i : Int)) R
  | 0, i, he => by
    refine Ev.step (f := fun k => spec_l4Reduce.l3 k p ((rows.eraseIdx at_).map fun r => lessP p (rd r (c : Int)) row r) (w : Int) out heads (c : Int) row 0) (fun k => ?_) hend
    rw [spec_l4Reduce.l2, if_neg (by omega), List.take_of_length_le (by omega)]
  | d + 1, i, he => by
    have hi : i < rows.length := by omega
    have ih := rest_ev hp hc hw hlen hr hrow hat hend d (i + 1) (by omega)
    by_cases e : i = at_
    · subst e
      refine Ev.step (f := fun k => spec_l4Reduce.l2 k p rows (w : Int) out heads (c : Int) (i : Int) row (((rows.take (i + 1)).eraseIdx i).map fun r => lessP p (rd r (c : Int)) row r) ((i + 1 : Nat) : Int)) (fun k => ?_) ih
      rw [spec_l4Reduce.l2, if_pos (by omega), if_pos rfl, wsm (by omega) (by omega)]
      have e1 : (rows.take i).eraseIdx i = rows.take i := List.eraseIdx_of_length_le (by rw [List.length_take]; omega)
      have e2 : (rows.take (i + 1)).eraseIdx i = rows.take i := by
        rw [List.take_add_one, List.eraseIdx_append_of_length_le (by rw [List.length_take]; omega)]
        simp [Nat.min_eq_left (Nat.le_of_lt hi), List.getElem?_eq_getElem hi]
      rw [e1, e2]
      rfl
    · have hrow_i := hr _ (mem_getD hi)
      have ht := ok_rd hrow_i c hc
      refine Ev.step (f := fun k => (spec_l4Less.f k p (rows.getD i []) (rd (rows.getD i []) (c : Int)) row).bind fun t => if (((rows.take i).eraseIdx at_).map fun r => lessP p (rd r (c : Int)) row r).length < 5864062014805 then spec_l4Reduce.l2 k p rows (w : Int) out heads (c : Int) (at_ : Int) row ((((rows.take i).eraseIdx at_).map fun r => lessP p (rd r (c : Int)) row r) ++ [t]) ((i + 1 : Nat) : Int) else none) (fun k => ?_) ?_
      · rw [spec_l4Reduce.l2, if_pos (by omega), if_neg (by omega), if_pos (by omega), if_pos (by omega), rdL_at, if_pos (by omega), wsm (by omega) (by omega)]
        rfl
      · refine Ev.bind (l4Less_ev hp ht hrow hrow_i hw) (Ev.yes ?_ ?_)
        · rw [List.length_map]
          have h1 := List.length_eraseIdx_le (rows.take i) at_
          have h2 : (rows.take i).length ≤ rows.length := by rw [List.length_take]; omega
          omega
        · have e2 : ((rows.take (i + 1)).eraseIdx at_).map (fun r => lessP p (rd r (c : Int)) row r) = ((rows.take i).eraseIdx at_).map (fun r => lessP p (rd r (c : Int)) row r) ++ [lessP p (rd (rows.getD i []) (c : Int)) row (rows.getD i [])] := by
            have e3 : rows.take (i + 1) = rows.take i ++ [rows.getD i []] := by
              rw [List.take_add_one, List.getElem?_eq_getElem hi, List.getD_eq_getElem?_getD, List.getElem?_eq_getElem hi]; rfl
            by_cases hlt : at_ < i
            · rw [e3, List.eraseIdx_append_of_lt_length (by simp; omega), List.map_append]; rfl
            · rw [List.eraseIdx_of_length_le (by simp; omega), List.eraseIdx_of_length_le (by simp; omega), e3, List.map_append]; rfl
          rw [e2] at ih
          exact ih
/-- the rows that are done are lessened -/
theorem done_ev {p : Int} {w : Nat} (hp : 7 ≤ p ∧ p ≤ 31) {rest out : List (List Int)} {heads : List Int} {c : Nat} {row : List Int} {R : List (List Int) × List Int} (hc : c < w) (hw : w ≤ 1000) (hlen : out.length < 1000000) (hh : heads.length < 1000000) (hr : okR p w out) (hrow : row.length = w ∧ ∀ x ∈ row, 0 ≤ x ∧ x < p)
    (hend : Ev (fun k => spec_l4Reduce.l0 k p rest (w : Int) ((out.map fun r => lessP p (rd r (c : Int)) row r) ++ [row]) (heads ++ [(c : Int)]) ((c + 1 : Nat) : Int)) R) :
    ∀ (d i : Nat), i + d = out.length → Ev (fun k => spec_l4Reduce.l3 k p rest (w : Int) ((out.map fun r => lessP p (rd r (c : Int)) row r).take i ++ out.drop i) heads (c : Int) row (i : Int)) R
  | 0, i, he => by
    refine Ev.step (f := fun k => spec_l4Reduce.l0 k p rest (w : Int) ((out.map fun r => lessP p (rd r (c : Int)) row r) ++ [row]) (heads ++ [(c : Int)]) ((c + 1 : Nat) : Int)) (fun k => ?_) hend
    rw [List.drop_eq_nil_of_le (by omega), List.append_nil, List.take_of_length_le (by simp; omega), spec_l4Reduce.l3, if_neg (by simp; omega), if_pos (by simp; omega), if_pos (by omega), wsm (by omega) (by omega)]
    rfl
  | d + 1, i, he => by
    have hi : i < out.length := by omega
    have ih := done_ev hp hc hw hlen hh hr hrow hend d (i + 1) (by omega)
    have hrow_i := hr _ (mem_getD hi)
    have ht := ok_rd hrow_i c hc
    have hcur : ((out.map fun r => lessP p (rd r (c : Int)) row r).take i ++ out.drop i).getD i [] = out.getD i [] := by
      simp [List.getD_eq_getElem?_getD, List.getElem?_append_right, Nat.min_eq_left (Nat.le_of_lt hi), hi]
    have hcl : ((out.map fun r => lessP p (rd r (c : Int)) row r).take i ++ out.drop i).length = out.length := by simp; omega
    have hset : ((out.map fun r => lessP p (rd r (c : Int)) row r).take i ++ out.drop i).set i (lessP p (rd (out.getD i []) (c : Int)) row (out.getD i [])) = (out.map fun r => lessP p (rd r (c : Int)) row r).take (i + 1) ++ out.drop (i + 1) :=
      scan_set _ _ _ _ (by simp) hi (by simp [List.getD_eq_getElem?_getD, List.getElem?_eq_getElem hi])
    refine Ev.step (f := fun k => (spec_l4Less.f k p (out.getD i []) (rd (out.getD i []) (c : Int)) row).bind fun t => spec_l4Reduce.l3 k p rest (w : Int) (((out.map fun r => lessP p (rd r (c : Int)) row r).take i ++ out.drop i).set i t) heads (c : Int) row ((i + 1 : Nat) : Int)) (fun k => ?_) ?_
    · rw [spec_l4Reduce.l3, if_pos (by omega), if_pos (by omega), if_pos (by omega), rdL_at, hcur, if_pos (by omega), wsm (by omega) (by omega), Int.toNat_natCast]
      rfl
    · refine Ev.bind (l4Less_ev hp ht hrow hrow_i hw) ?_
      rw [hset]
      exact ih
theorem l4Reduce_l {p : Int} (hp : primeB p = true) {w : Nat} (hw : w ≤ 1000) : ∀ (d c : Nat) (L O : List (List Int)) (H : List Int), c + d = w → okR p w L → okR p w O → zeroTo c L → L.length + O.length < 1000000 → H.length = O.length →
    Ev (fun k => spec_l4Reduce.l0 k p L (w : Int) O H (c : Int)) (redP p d c L O, headsP p d c L H)
  | 0, c, L, O, H, hc, _, _, _, _, _ => by
    refine Ev.step (f := fun _ => some (O, H)) (fun k => ?_) (Ev.now _)
    rw [spec_l4Reduce.l0, if_neg (by omega)]
  | d + 1, c, L, O, H, hc, hL, hO, hz, hl, hH => by
    have hb := prime_bd hp
    refine Ev.step (f := fun k => spec_l4Reduce.l1 k p L (w : Int) O H (c : Int) (-1) ((0 : Nat) : Int)) (fun k => ?_) ?_
    · rw [spec_l4Reduce.l0, if_pos (by omega)]; rfl
    · refine search_ev (by omega) hw (by omega) (fun r hr => (hL r hr).1) (fun hf => ?_) (fun i hf => ?_) L.length 0 (by omega) rfl
      · have ih := l4Reduce_l hp hw d (c + 1) L O H (by omega) hL hO (zeroTo_none hz hf) hl hH
        rw [redP, headsP, hf]
        exact ih
      · obtain ⟨hi, hne⟩ := find_lt hf
        have hx := hL _ (mem_getD hi)
        have hne' : rd (L.getD i []) (c : Int) ≠ 0 := by simpa using hne
        have hs := scale_ok (p := p) (b := invP p (rd (L.getD i []) (c : Int))) (by omega) hx.1
        have hzn := zeroTo_next hp (by omega) hL hz hf
        have ih := l4Reduce_l hp hw d (c + 1) ((L.eraseIdx i).map fun r => lessP p (rd r (c : Int)) (scaleP p (invP p (rd (L.getD i []) (c : Int))) (L.getD i [])) r) ((O.map fun r => lessP p (rd r (c : Int)) (scaleP p (invP p (rd (L.getD i []) (c : Int))) (L.getD i [])) r) ++ [scaleP p (invP p (rd (L.getD i []) (c : Int))) (L.getD i [])]) (H ++ [(c : Int)]) (by omega)
          (okR_less _ (by omega) hs.1 (okR_erase i hL)) (okR_app (okR_less _ (by omega) hs.1 hO) (okR_cons hs (okR_nil p w))) hzn (by simp [List.length_eraseIdx, hi]; omega) (by simp [hH])
        rw [redP, headsP, hf]
        simp only
        refine Ev.bind (a := scaleP p (invP p (rd (L.getD i []) (c : Int))) (L.getD i [])) ?_ ?_
        · have h1 := l4Row_ev hp (L.getD i []) hx.2 (by omega)
          rwa [rowP_at (by omega) (hz _ (mem_getD hi)) hne'] at h1
        · have h2 := done_ev hb (c := c) (heads := H) (out := O) (rest := (L.eraseIdx i).map fun r => lessP p (rd r (c : Int)) (scaleP p (invP p (rd (L.getD i []) (c : Int))) (L.getD i [])) r) (by omega) hw (by omega) (by omega) hO hs ih O.length 0 (by omega)
          have h3 := rest_ev hb (c := c) (by omega) hw (by omega) hL hs hi (by simpa using h2) L.length 0 (by omega)
          simpa using h3
theorem l4Reduce_ev {p : Int} (hp : primeB p = true) {w : Nat} (hw : w ≤ 1000) (L : List (List Int)) (hL : okR p w L) (hl : L.length < 1000000) : Ev (fun k => spec_l4Reduce.f k p L (w : Int)) (redP p w 0 L [], headsP p w 0 L []) := by
  unfold spec_l4Reduce.f
  exact l4Reduce_l hp hw w 0 L [] [] (by omega) hL (okR_nil p w) (fun _ _ j hj => absurd hj (by omega)) (by simpa using hl) rfl

end Go.Proofs.Ytdgopdbmbaiddaa.PA
