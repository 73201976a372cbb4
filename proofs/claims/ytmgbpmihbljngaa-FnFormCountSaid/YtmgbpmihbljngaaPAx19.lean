-- Written by xprint.py, a program of this claim's own (over the kit's print.py)
import Derived.Test.YtmgbpmihbljngaaPAx0
import Derived.Test.YtmgbpmihbljngaaPAx1
import Derived.Test.YtmgbpmihbljngaaPAx17
import Derived.Test.YtmgbpmihbljngaaPAx18
import Derived.StillTailTactics
import Derived.Deep.Cut
import Derived.Deep.CutBlock
import Derived.BigQuiet
import Derived.Deep.QuietTactic
namespace Go.Proofs.Ytmgbpmihbljngaa.PA
open Go.RowKit Go.Proofs.YtmgbpmihbljngaaW.PrintWords Go.Proofs.YtmgbpmihbljngaaW.PrintLast Go.Proofs.YtmgbpmihbljngaaW.PrintMore
attribute [local go_sem] max2_int min2_int max_two min_two max_three min_three max_four min_four   -- for this text's walks alone
set_option linter.unusedVariables false
set_option linter.unusedSimpArgs false

/-! ### impl_FormSmooth: function 17 (by hand) -/
theorem fl_lt {w : World} {b : Nat} {o : Obj} (h : w.heap[b]? = some o) : b < w.heap.size := (Array.getElem?_eq_some_iff.1 h).1
theorem fl_alloc_old {w : World} {b : Nat} {o : Obj} (h : w.heap[b]? = some o) (o2 : Obj) : (w.alloc o2).heap[b]? = some o := by rw [Below.heap_alloc _ _ _ (fl_lt h)]; exact h
theorem fl_alloc_here (w : World) (o : Obj) : (w.alloc o).heap[w.heap.size]? = some o := by
 show (w.heap.push o)[w.heap.size]? = _
 simp
/-- the triples of a form's indexes -/
def tripL : List S41 := [⟨0, 0, 0⟩, ⟨0, 0, 1⟩, ⟨0, 0, 2⟩, ⟨0, 0, 3⟩, ⟨0, 1, 1⟩, ⟨0, 1, 2⟩, ⟨0, 1, 3⟩, ⟨0, 2, 2⟩, ⟨0, 2, 3⟩, ⟨0, 3, 3⟩, ⟨1, 1, 1⟩, ⟨1, 1, 2⟩, ⟨1, 1, 3⟩, ⟨1, 2, 2⟩, ⟨1, 2, 3⟩, ⟨1, 3, 3⟩, ⟨2, 2, 2⟩, ⟨2, 2, 3⟩, ⟨2, 3, 3⟩, ⟨3, 3, 3⟩]
theorem triples_f : impl_triples.f 60 = some tripL := by kernel_rfl
/-- one derivative's sum grows -/
def flatAdd (f a : List Int) (n : Nat) (s : List Int) (t u v : Int) : List Int := s.set t.toNat (wrap64 (rd s t + wrap64 (wrap64 (rd f n * rd a u) * rd a v)))
/-- the sums behind d of the three steps at a triple -/
def flatPart (f a : List Int) (n : Nat) (t : S41) : Nat → List Int → List Int
 | 0, s => s
 | 1, s => flatAdd f a n s t.f0 t.f1 t.f2
 | 2, s => flatAdd f a n (flatAdd f a n s t.f0 t.f1 t.f2) t.f1 t.f2 t.f0
 | _, s => flatAdd f a n (flatAdd f a n (flatAdd f a n s t.f0 t.f1 t.f2) t.f1 t.f2 t.f0) t.f2 t.f0 t.f1
def flatStep (f a : List Int) (n : Nat) (s : List Int) (t : S41) : List Int := flatAdd f a n (flatAdd f a n (flatAdd f a n s t.f0 t.f1 t.f2) t.f1 t.f2 t.f0) t.f2 t.f0 t.f1
def flatSums (f a : List Int) : Nat → List Int → List S41 → List Int
 | _, s, [] => s
 | n, s, t :: ts => flatSums f a (n + 1) (flatStep f a n s t) ts
/-- are all derivatives 0 -/
def flatI (p : Int) (f a : List Int) : Bool := (flatSums f a 0 [0, 0, 0, 0] tripL).all fun s => Int.tmod s p == 0
theorem trip_bd (n : Nat) (h : n < 20) : 0 ≤ (rd_T41 tripL n).f0 ∧ (rd_T41 tripL n).f0 < 4 ∧ 0 ≤ (rd_T41 tripL n).f1 ∧ (rd_T41 tripL n).f1 < 4 ∧ 0 ≤ (rd_T41 tripL n).f2 ∧ (rd_T41 tripL n).f2 < 4 := by
 have hh : ∀ m : Fin 20, 0 ≤ (rd_T41 tripL (m.val : Nat)).f0 ∧ (rd_T41 tripL (m.val : Nat)).f0 < 4 ∧ 0 ≤ (rd_T41 tripL (m.val : Nat)).f1 ∧ (rd_T41 tripL (m.val : Nat)).f1 < 4 ∧ 0 ≤ (rd_T41 tripL (m.val : Nat)).f2 ∧ (rd_T41 tripL (m.val : Nat)).f2 < 4 := by decide +kernel
 exact hh ⟨n, h⟩
def sumCells (s : List Int) : Array Value := #[.int .i64 (rd s 0), .int .i64 (rd s 1), .int .i64 (rd s 2), .int .i64 (rd s 3)]
theorem set_sum (s : List Int) (hs : s.length = 4) (j : Int) (h0 : 0 ≤ j) (h4 : j < 4) (v : Int) : (sumCells s).setIfInBounds j.toNat (.int .i64 v) = sumCells (s.set j.toNat v) := by
 match s, hs with
 | [a, b, c, d], _ => rcases (by omega : j = 0 ∨ j = 1 ∨ j = 2 ∨ j = 3) with rfl | rfl | rfl | rfl <;> rfl
theorem drop_T3 (xs : List S41) (n : Nat) (h : n < xs.length) : xs.drop n = rd_T41 xs (n : Int) :: xs.drop (n + 1) := by
 rw [List.drop_eq_getElem_cons h]
 simp [rd_T41, List.getD_eq_getElem?_getD, h]
theorem add_len (f a : List Int) (n : Nat) (s : List Int) (t u v : Int) : (flatAdd f a n s t u v).length = s.length := by simp [flatAdd]
theorem part_len (f a : List Int) (n : Nat) (t : S41) {s : List Int} (hs : s.length = 4) (d : Nat) : (flatPart f a n t d s).length = 4 := by
 match d with
 | 0 => exact hs
 | 1 => simp [flatPart, add_len, hs]
 | 2 => simp [flatPart, add_len, hs]
 | d + 3 => simp [flatPart, add_len, hs]
set_option maxHeartbeats 4000000 in
set_option maxRecDepth 100000 in
theorem impl_isFlat.calls2 (p : Int) (hp : p ≠ 0) (A1 : Option Addr) (c1 : Nat) (f : List Int) (A2 : Option Addr) (c2 : Nat) (a : List Int) (w : World) (hf : f.length = 20) (ha : a.length = 4) (hr1 : Kd.C (Kd.int .i64) w A1 f.length f) (hc1 : f.length ≤ c1) (hr2 : Kd.C (Kd.int .i64) w A2 a.length a) (hc2 : a.length ≤ c2) :
  Calls Try.prog 60 #[.int .i64 p, .slice A1 f.length c1, .slice A2 a.length c2] w fun e w' => e = .returned (.bool (flatI p f a)) ∧ Below w.heap.size w w' := by
 have hu53 := Try.underlying41
 have hu71 := Try.underlying98
 have HF := Lib.hid hf
 have HA := Lib.hid ha
 clear hf ha
 go_enter Try.func60, Try.ntmps60
 go_wp2_with fail
 refine (impl_triples.calls 60 tripL _ triples_f).mono ?_
 rintro e w1 ⟨v, rfl, hR, hb⟩
 obtain ⟨A3, c3, rfl, hl3, _⟩ := Kd.R_reads hR
 have hz1 : w.heap.size + 1 ≤ w1.heap.size := by simpa using hb.size
 have hg0 : w1.heap[w.heap.size]? = some (.cells (sumCells [0, 0, 0, 0]) 98 (0, 0)) := by
  rw [hb.block _ (by simp)]; exact fl_alloc_here _ _
 have hR1 := Kd.R_lower hR (base' := w.heap.size) (by simp)
 have hB1 : Below w.heap.size w w1 := ((Below.refl _ _).alloc (Nat.le_refl _) _).trans (hb.mono (by simp))
 clear hR hb
 rw [show tripL.length = 20 from rfl]
 go_wp2
 go_loopw [16] (fun i w' => ∃ n : Nat, n ≤ 20 ∧ i = .int .i64 n ∧ ∃ s : List Int, s.length = 4 ∧ w'.heap[w.heap.size]? = some (.cells (sumCells s) 98 (0, 0)) ∧ flatSums f a 0 [0, 0, 0, 0] tripL = flatSums f a n s (tripL.drop n) ∧ Kd.R k41 41 w' w.heap.size (fun _ => True) (.slice A3 20 c3) tripL ∧ Below w.heap.size w w') (fun i _ => 20 - (intOf i).toNat)
 case atStart => exact ⟨0, by omega, rfl, [0, 0, 0, 0], rfl, hg0, rfl, hR1, hB1⟩
 case round =>
  clear hg0 hR1 hB1
  obtain ⟨n, hfl, rfl, s, hs4, hg, hfs, hR, hB⟩ := hrel
  have HS4 := Lib.hid hs4
  have HFS := Lib.hid hfs
  clear hs4 hfs
  have HFL := Lib.hid hfl
  clear hfl
  by_cases hlt : n < 20
  ·obtain ⟨ad, e3, hx0, hx1, hx2⟩ := at_T41 (Kd.R_reads' hR).2.2 (n : Int) (by omega) (by show (n : Int) < ((20 : Nat) : Int); omega)
   subst e3
   obtain ⟨t, ht⟩ : ∃ t, rd_T41 tripL n = t := ⟨_, rfl⟩
   have htb := trip_bd n hlt
   rw [ht] at hx0 hx1 hx2 htb
   simp only [Int.toNat_natCast] at hx0 hx1 hx2
   have HT := Lib.hid ht
   have HR := Lib.hid hR
   have HB := Lib.hid hB
   have HG := Lib.hid hg
   have HTB := Lib.hid htb
   have HR1 := Lib.hid hr1
   have HR2 := Lib.hid hr2
   clear ht hR hB hg htb hr1 hr2 hl3 hz1
   have c1b : decide ((n : Int) < 20) = true := decide_eq_true (by omega)
   have p1 : (0 ≤ (n : Int)) = True := eq_true (by omega)
   have q1 : ((n : Int) < 20) = True := eq_true (by omega)
   have HLT := Lib.hid hlt
   have tn : (n : Int).toNat = n := rfl
   clear hlt
   go_upto_block 2 with fail
   obtain ⟨bT, hbT⟩ : ∃ bT, wr.heap.size = bT := ⟨_, rfl⟩
   obtain ⟨wq, hwq⟩ : ∃ wq, wr.alloc (Obj.cells #[Value.int IntKind.i64 t.f0, Value.int IntKind.i64 t.f1, Value.int IntKind.i64 t.f2] 41) = wq := ⟨_, rfl⟩
   have hgq : wq.heap[w.heap.size]? = some (.cells (sumCells s) 98 (0, 0)) := by rw [← hwq]; exact fl_alloc_old HG.out _
   have htq : wq.heap[bT]? = some (.cells #[Value.int IntKind.i64 t.f0, Value.int IntKind.i64 t.f1, Value.int IntKind.i64 t.f2] 41 (0, 0)) := by rw [← hwq, ← hbT]; exact fl_alloc_here _ _
   have hRq : Kd.R k41 41 wq w.heap.size (fun _ => True) (.slice (some ad) 20 c3) tripL := by rw [← hwq]; exact Kd.R_alloc HR.out _
   have hBq : Below w.heap.size w wq := by rw [← hwq]; exact HB.out.alloc (HB.out.size) _
   have HLE : Hid (w.heap.size ≠ bT) := Lib.hid (by
    have := (Array.getElem?_eq_some_iff.1 HG.out).1
    omega)
   rw [hwq, hbT]
   clear hx0 hx1 hx2 hbT
   go_step
   go_loopw [21] (fun i w' => ∃ d : Nat, d ≤ 3 ∧ i = .int .i64 d ∧ w'.heap[w.heap.size]? = some (.cells (sumCells (flatPart f a n t d s)) 98 (0, 0)) ∧ w'.heap[bT]? = some (.cells #[Value.int IntKind.i64 t.f0, Value.int IntKind.i64 t.f1, Value.int IntKind.i64 t.f2] 41 (0, 0)) ∧ Kd.R k41 41 w' w.heap.size (fun _ => True) (.slice (some ad) 20 c3) tripL ∧ Below w.heap.size w w') (fun i _ => 3 - (intOf i).toNat)
   case atStart => exact ⟨0, by omega, rfl, hgq, htq, hRq, hBq⟩
   case round =>
    clear hgq htq hRq hBq hwq
    obtain ⟨d, hd, hi, hgq, htq, hRq, hBq⟩ := hrel
    have hx0 : wr.cell? ⟨bT, 0, none⟩ = some (.int .i64 t.f0) := (blk_cell htq 0).trans rfl
    have hx1 : wr.cell? ⟨bT, 1, none⟩ = some (.int .i64 t.f1) := (blk_cell htq 1).trans rfl
    have hx2 : wr.cell? ⟨bT, 2, none⟩ = some (.int .i64 t.f2) := (blk_cell htq 2).trans rfl
    have HGQ := Lib.hid hgq
    have HTQ := Lib.hid htq
    have HRQ := Lib.hid hRq
    have HBQ := Lib.hid hBq
    obtain ⟨z0, z0', z1, z1', z2, z2'⟩ := HTB.out
    have hfr := blk_frozen hgq
    have hcl (j : Int) (h0 : 0 ≤ j) (h4 : j < 4) (s : List Int) (hg : wr.heap[w.heap.size]? = some (.cells (sumCells s) 98 (0, 0))) : wr.cell? ⟨w.heap.size, j.toNat, none⟩ = some (.int .i64 (rd s j)) := by
     rw [blk_cell hg]
     rcases (by omega : j = 0 ∨ j = 1 ∨ j = 2 ∨ j = 3) with rfl | rfl | rfl | rfl <;> rfl
    have hF := Kd.C_below HR1.out hBq
    have hA := Kd.C_below HR2.out hBq
    obtain ⟨adf, ef, hxf⟩ := Kd.at_int hF (n : Int) (by omega) (by have := HLT.out; have := HF.out; omega)
    cases ef
    obtain ⟨ada, ea, hxa0⟩ := Kd.at_int hA t.f0 z0 (by have := HA.out; omega)
    cases ea
    obtain ⟨ada1, ea, hxa1⟩ := Kd.at_int hA t.f1 z1 (by have := HA.out; omega)
    cases ea
    obtain ⟨ada2, ea, hxa2⟩ := Kd.at_int hA t.f2 z2 (by have := HA.out; omega)
    cases ea; clear hgq htq hRq hBq hF hA HR1 HR2
    simp only [Int.toNat_natCast] at hxf
    have g1 : (0 ≤ t.f0) = True := eq_true z0
    have g2 : (0 ≤ t.f1) = True := eq_true z1
    have g3 : (0 ≤ t.f2) = True := eq_true z2
    have g4 : (t.f0 < (a.length : Int)) = True := eq_true (by have := HA.out; omega)
    have g5 : (t.f1 < (a.length : Int)) = True := eq_true (by have := HA.out; omega)
    have g6 : (t.f2 < (a.length : Int)) = True := eq_true (by have := HA.out; omega)
    have g7 : ((n : Int) < (f.length : Int)) = True := eq_true (by have := HF.out; have := HLT.out; omega)
    have g8 : (t.f0 < 4) = True := eq_true z0'
    have g9 : (t.f1 < 4) = True := eq_true z1'
    have g10 : (t.f2 < 4) = True := eq_true z2'
    rcases (by omega : d = 0 ∨ d = 1 ∨ d = 2 ∨ d = 3) with rfl | rfl | rfl | rfl
    ·have hs := hcl t.f0 z0 z0' _ HGQ.out
     have hs' : wr.drew.cell? ⟨w.heap.size, (t.f0).toNat, none⟩ = some (.int .i64 (rd (flatPart f a n t 0 s) t.f0)) := hs
     have hfs : wr.drew.frozen? ⟨w.heap.size, (t.f0).toNat, none⟩ = false := hfr (t.f0).toNat
     have hw1 : IntKind.i64.wrap 1 = 1 := by decide
     have hw2 : IntKind.i64.wrap 2 = 2 := by decide
     have hm1 : Int.tmod 1 3 = 1 := by decide
     have hm2 : Int.tmod 2 3 = 2 := by decide
     cases (show _ = Value.int .i64 0 from hi)
     clear hcl hfr hi; clear z0 z0' z1 z1' z2 z2'
     go_upto_region 8 with fail
     go_still_tail 29, (by kernel_rfl)
     change wpList _ _ _ _ _ wr.drew
     have HGQ' : Hid (wr.drew.heap[w.heap.size]? = some (Obj.cells (sumCells (flatPart f a n t 0 s)) 98 (0, 0))) := HGQ
     have HTQ' : Hid (wr.drew.heap[bT]? = some (Obj.cells #[Value.int IntKind.i64 t.f0, Value.int IntKind.i64 t.f1, Value.int IntKind.i64 t.f2] 41 (0, 0))) := HTQ
     have HRQ' : Hid (Kd.R k41 41 wr.drew w.heap.size (fun _ => True) (.slice (some ad) 20 c3) tripL) := Lib.hid (Kd.R_drew HRQ.out)
     have HBQ' : Hid (Below w.heap.size w wr.drew) := Lib.hid (below_drew1 HBQ.out)
     clear HGQ HTQ HRQ HBQ hx0 hx1 hx2 hs
     obtain ⟨wr2, hwr2⟩ : ∃ wr2, wr.drew = wr2 := ⟨_, rfl⟩
     rw [hwr2] at HGQ' HTQ' HRQ' HBQ' hfs hs' ⊢
     clear hwr2; clear g1 g2 g3 g4 g5 g6 g7 g8 g9 g10 hm1 hm2 hw1 hw2 HR HB HG HFL HT hxf hxa0 hxa1 hxa2
     go_wp2_with fail
     go_roundw
     case measure => show (3 - (intOf (Value.int IntKind.i64 _)).toNat : Nat) < _; simp only [intOf]; decide
     case rel => exact ⟨1, by omega, rfl, (blk_set HGQ'.out _ _).trans (by rw [set_sum _ (part_len f a n t HS4.out 0) _ HTB.out.1 HTB.out.2.1]; rfl), blk_far HTQ'.out HLE.out.symm _, Kd.R_set HRQ'.out HGQ'.out (by decide) _ _, below_set HBQ'.out (Nat.le_refl _)⟩
    ·have hs := hcl t.f1 z1 z1' _ HGQ.out
     have hs' : wr.drew.cell? ⟨w.heap.size, (t.f1).toNat, none⟩ = some (.int .i64 (rd (flatPart f a n t 1 s) t.f1)) := hs
     have hfs : wr.drew.frozen? ⟨w.heap.size, (t.f1).toNat, none⟩ = false := hfr (t.f1).toNat
     have hw1 : IntKind.i64.wrap 2 = 2 := by decide
     have hw2 : IntKind.i64.wrap 3 = 3 := by decide
     have hm1 : Int.tmod 2 3 = 2 := by decide
     have hm2 : Int.tmod 3 3 = 0 := by decide
     cases (show _ = Value.int .i64 1 from hi)
     clear hcl hfr hi; clear z0 z0' z1 z1' z2 z2'
     go_upto_region 8 with fail
     go_still_tail 29, (by kernel_rfl)
     change wpList _ _ _ _ _ wr.drew
     have HGQ' : Hid (wr.drew.heap[w.heap.size]? = some (Obj.cells (sumCells (flatPart f a n t 1 s)) 98 (0, 0))) := HGQ
     have HTQ' : Hid (wr.drew.heap[bT]? = some (Obj.cells #[Value.int IntKind.i64 t.f0, Value.int IntKind.i64 t.f1, Value.int IntKind.i64 t.f2] 41 (0, 0))) := HTQ
     have HRQ' : Hid (Kd.R k41 41 wr.drew w.heap.size (fun _ => True) (.slice (some ad) 20 c3) tripL) := Lib.hid (Kd.R_drew HRQ.out)
     have HBQ' : Hid (Below w.heap.size w wr.drew) := Lib.hid (below_drew1 HBQ.out)
     clear HGQ HTQ HRQ HBQ hx0 hx1 hx2 hs
     obtain ⟨wr2, hwr2⟩ : ∃ wr2, wr.drew = wr2 := ⟨_, rfl⟩
     rw [hwr2] at HGQ' HTQ' HRQ' HBQ' hfs hs' ⊢
     clear hwr2; clear g1 g2 g3 g4 g5 g6 g7 g8 g9 g10 hm1 hm2 hw1 hw2 HR HB HG HFL HT hxf hxa0 hxa1 hxa2
     go_wp2_with fail
     go_roundw
     case measure => show (3 - (intOf (Value.int IntKind.i64 _)).toNat : Nat) < _; simp only [intOf]; decide
     case rel => exact ⟨2, by omega, rfl, (blk_set HGQ'.out _ _).trans (by rw [set_sum _ (part_len f a n t HS4.out 1) _ HTB.out.2.2.1 HTB.out.2.2.2.1]; rfl), blk_far HTQ'.out HLE.out.symm _, Kd.R_set HRQ'.out HGQ'.out (by decide) _ _, below_set HBQ'.out (Nat.le_refl _)⟩
    ·have hs := hcl t.f2 z2 z2' _ HGQ.out
     have hs' : wr.drew.cell? ⟨w.heap.size, (t.f2).toNat, none⟩ = some (.int .i64 (rd (flatPart f a n t 2 s) t.f2)) := hs
     have hfs : wr.drew.frozen? ⟨w.heap.size, (t.f2).toNat, none⟩ = false := hfr (t.f2).toNat
     have hw1 : IntKind.i64.wrap 3 = 3 := by decide
     have hw2 : IntKind.i64.wrap 4 = 4 := by decide
     have hm1 : Int.tmod 3 3 = 0 := by decide
     have hm2 : Int.tmod 4 3 = 1 := by decide
     cases (show _ = Value.int .i64 2 from hi)
     clear hcl hfr hi; clear z0 z0' z1 z1' z2 z2'
     go_upto_region 8 with fail
     go_still_tail 29, (by kernel_rfl)
     change wpList _ _ _ _ _ wr.drew
     have HGQ' : Hid (wr.drew.heap[w.heap.size]? = some (Obj.cells (sumCells (flatPart f a n t 2 s)) 98 (0, 0))) := HGQ
     have HTQ' : Hid (wr.drew.heap[bT]? = some (Obj.cells #[Value.int IntKind.i64 t.f0, Value.int IntKind.i64 t.f1, Value.int IntKind.i64 t.f2] 41 (0, 0))) := HTQ
     have HRQ' : Hid (Kd.R k41 41 wr.drew w.heap.size (fun _ => True) (.slice (some ad) 20 c3) tripL) := Lib.hid (Kd.R_drew HRQ.out)
     have HBQ' : Hid (Below w.heap.size w wr.drew) := Lib.hid (below_drew1 HBQ.out)
     clear HGQ HTQ HRQ HBQ hx0 hx1 hx2 hs
     obtain ⟨wr2, hwr2⟩ : ∃ wr2, wr.drew = wr2 := ⟨_, rfl⟩
     rw [hwr2] at HGQ' HTQ' HRQ' HBQ' hfs hs' ⊢
     clear hwr2; clear g1 g2 g3 g4 g5 g6 g7 g8 g9 g10 hm1 hm2 hw1 hw2 HR HB HG HFL HT hxf hxa0 hxa1 hxa2
     go_wp2_with fail
     go_roundw
     case measure => show (3 - (intOf (Value.int IntKind.i64 _)).toNat : Nat) < _; simp only [intOf]; decide
     case rel => exact ⟨3, by omega, rfl, (blk_set HGQ'.out _ _).trans (by rw [set_sum _ (part_len f a n t HS4.out 2) _ HTB.out.2.2.2.2.1 HTB.out.2.2.2.2.2]; rfl), blk_far HTQ'.out HLE.out.symm _, Kd.R_set HRQ'.out HGQ'.out (by decide) _ _, below_set HBQ'.out (Nat.le_refl _)⟩
    ·cases (show _ = Value.int .i64 3 from hi)
     clear hcl hfr hi z0 z0' z1 z1' z2 z2' g1 g2 g3 g4 g5 g6 g7 g8 g9 g10 hx0 hx1 hx2 hxf hxa0 hxa1 hxa2
     go_wp2_with fail
     have hw1 : wrap64 ((n : Int) + 1) = ((n + 1 : Nat) : Int) := by have := HLT.out; unfold wrap64; omega
     go_roundw
     case measure => rw [hw1]; simp only [intOf]; have := HLT.out; omega
     case rel =>
      refine ⟨n + 1, by have := HLT.out; omega, by rw [hw1], flatStep f a n s t, part_len f a n t HS4.out 3, HGQ.out, ?_, HRQ.out, HBQ.out⟩
      rw [HFS.out, drop_T3 tripL n HLT.out, HT.out]
      rfl
  ·have HFL2 := HFL.out
   have hn : n = 20 := by omega
   subst hn
   match s, HS4.out with
   | [s0, s1, s2, s3], _ =>
   have hx0 : wr.cell? ⟨w.heap.size, 0, none⟩ = some (.int .i64 s0) := (blk_cell hg 0).trans rfl
   have hx1 : wr.cell? ⟨w.heap.size, 1, none⟩ = some (.int .i64 s1) := (blk_cell hg 1).trans rfl
   have hx2 : wr.cell? ⟨w.heap.size, 2, none⟩ = some (.int .i64 s2) := (blk_cell hg 2).trans rfl
   have hx3 : wr.cell? ⟨w.heap.size, 3, none⟩ = some (.int .i64 s3) := (blk_cell hg 3).trans rfl
   have HB := Lib.hid hB
   clear hR hB hg hr1 hr2 hl3 hz1 hlt HFL2 HFL HF HA
   go_upto_block 4 with fail
   clear hx0 hx1 hx2 hx3
   have HBW := HB.out
   clear HB
   go_step
   go_loopw [56] (fun i w' => ∃ d : Nat, d ≤ 4 ∧ i = .int .i64 d ∧ (([s0, s1, s2, s3].take d).all fun s => Int.tmod s p == 0) = true ∧ Below w.heap.size w w') (fun i _ => 4 - (intOf i).toNat)
   case atStart => exact ⟨0, by omega, rfl, rfl, HBW⟩
   case round =>
    clear HBW
    obtain ⟨d, hd, hi, hall, HBW⟩ := hrel
    rcases (by omega : d = 0 ∨ d = 1 ∨ d = 2 ∨ d = 3 ∨ d = 4) with rfl | rfl | rfl | rfl | rfl
    ·cases (show _ = Value.int .i64 0 from hi)
     have hix : ∀ w : World, (Instr.index 98 (Value.agg #[Value.int .i64 s0, Value.int .i64 s1, Value.int .i64 s2, Value.int .i64 s3]) (Value.int .i64 0)).run Try.prog w = .ok (Value.int .i64 s0) w := fun _ => by simp [Instr.index, hu71, Sem.run]; rfl
     by_cases hz : Int.tmod s0 p = 0
     ·have hzb : (Int.tmod s0 p != 0) = false := bne_eq_false_iff_eq.mpr hz
      have HZ := Lib.hid hz
      have HALL := Lib.hid hall
      clear hz hall hi
      go_wp2_with fail
      repeat (go_quiet (fail); try go_wp2)
      go_roundw
      case measure => simp [intOf]
      case rel => exact ⟨1, by omega, rfl, (by have := HZ.out; have h2 := HALL.out; simp only [List.take_succ_cons, List.take_zero, List.take_nil, List.all_cons, List.all_nil, beq_self_eq_true, Bool.and_true, Bool.and_eq_true, beq_iff_eq] at h2 ⊢; simp_all), by repeat (first | exact HBW | apply below_drew1 | apply pw_below_drewN)⟩
     ·have hzb : (Int.tmod s0 p != 0) = true := bne_iff_ne.mpr hz
      have HZ := Lib.hid hz
      clear hz hall hi
      go_wp2_with fail
      repeat (go_quiet (fail); try go_wp2)
      go_ret
      refine ⟨?_, ?_⟩
      ·have h1 := HFS.out
       rw [flatI, h1]
       have := HZ.out
       simp [tripL, flatSums, this]
      ·repeat (first | exact HBW | apply below_drew1 | apply pw_below_drewN)
    ·cases (show _ = Value.int .i64 1 from hi)
     have hix : ∀ w : World, (Instr.index 98 (Value.agg #[Value.int .i64 s0, Value.int .i64 s1, Value.int .i64 s2, Value.int .i64 s3]) (Value.int .i64 1)).run Try.prog w = .ok (Value.int .i64 s1) w := fun _ => by simp [Instr.index, hu71, Sem.run]; rfl
     by_cases hz : Int.tmod s1 p = 0
     ·have hzb : (Int.tmod s1 p != 0) = false := bne_eq_false_iff_eq.mpr hz
      have HZ := Lib.hid hz
      have HALL := Lib.hid hall
      clear hz hall hi
      go_wp2_with fail
      repeat (go_quiet (fail); try go_wp2)
      go_roundw
      case measure => simp [intOf]
      case rel => exact ⟨2, by omega, rfl, (by have := HZ.out; have h2 := HALL.out; simp only [List.take_succ_cons, List.take_zero, List.take_nil, List.all_cons, List.all_nil, beq_self_eq_true, Bool.and_true, Bool.and_eq_true, beq_iff_eq] at h2 ⊢; simp_all), by repeat (first | exact HBW | apply below_drew1 | apply pw_below_drewN)⟩
     ·have hzb : (Int.tmod s1 p != 0) = true := bne_iff_ne.mpr hz
      have HZ := Lib.hid hz
      clear hz hall hi
      go_wp2_with fail
      repeat (go_quiet (fail); try go_wp2)
      go_ret
      refine ⟨?_, ?_⟩
      ·have h1 := HFS.out
       rw [flatI, h1]
       have := HZ.out
       simp [tripL, flatSums, this]
      ·repeat (first | exact HBW | apply below_drew1 | apply pw_below_drewN)
    ·cases (show _ = Value.int .i64 2 from hi)
     have hix : ∀ w : World, (Instr.index 98 (Value.agg #[Value.int .i64 s0, Value.int .i64 s1, Value.int .i64 s2, Value.int .i64 s3]) (Value.int .i64 2)).run Try.prog w = .ok (Value.int .i64 s2) w := fun _ => by simp [Instr.index, hu71, Sem.run]; rfl
     by_cases hz : Int.tmod s2 p = 0
     ·have hzb : (Int.tmod s2 p != 0) = false := bne_eq_false_iff_eq.mpr hz
      have HZ := Lib.hid hz
      have HALL := Lib.hid hall
      clear hz hall hi
      go_wp2_with fail
      repeat (go_quiet (fail); try go_wp2)
      go_roundw
      case measure => simp [intOf]
      case rel => exact ⟨3, by omega, rfl, (by have := HZ.out; have h2 := HALL.out; simp only [List.take_succ_cons, List.take_zero, List.take_nil, List.all_cons, List.all_nil, beq_self_eq_true, Bool.and_true, Bool.and_eq_true, beq_iff_eq] at h2 ⊢; simp_all), by repeat (first | exact HBW | apply below_drew1 | apply pw_below_drewN)⟩
     ·have hzb : (Int.tmod s2 p != 0) = true := bne_iff_ne.mpr hz
      have HZ := Lib.hid hz
      clear hz hall hi
      go_wp2_with fail
      repeat (go_quiet (fail); try go_wp2)
      go_ret
      refine ⟨?_, ?_⟩
      ·have h1 := HFS.out
       rw [flatI, h1]
       have := HZ.out
       simp [tripL, flatSums, this]
      ·repeat (first | exact HBW | apply below_drew1 | apply pw_below_drewN)
    ·cases (show _ = Value.int .i64 3 from hi)
     have hix : ∀ w : World, (Instr.index 98 (Value.agg #[Value.int .i64 s0, Value.int .i64 s1, Value.int .i64 s2, Value.int .i64 s3]) (Value.int .i64 3)).run Try.prog w = .ok (Value.int .i64 s3) w := fun _ => by simp [Instr.index, hu71, Sem.run]; rfl
     by_cases hz : Int.tmod s3 p = 0
     ·have hzb : (Int.tmod s3 p != 0) = false := bne_eq_false_iff_eq.mpr hz
      have HZ := Lib.hid hz
      have HALL := Lib.hid hall
      clear hz hall hi
      go_wp2_with fail
      repeat (go_quiet (fail); try go_wp2)
      go_roundw
      case measure => simp [intOf]
      case rel => exact ⟨4, by omega, rfl, (by have := HZ.out; have h2 := HALL.out; simp only [List.take_succ_cons, List.take_zero, List.take_nil, List.all_cons, List.all_nil, beq_self_eq_true, Bool.and_true, Bool.and_eq_true, beq_iff_eq] at h2 ⊢; simp_all), by repeat (first | exact HBW | apply below_drew1 | apply pw_below_drewN)⟩
     ·have hzb : (Int.tmod s3 p != 0) = true := bne_iff_ne.mpr hz
      have HZ := Lib.hid hz
      clear hz hall hi
      go_wp2_with fail
      repeat (go_quiet (fail); try go_wp2)
      go_ret
      refine ⟨?_, ?_⟩
      ·have h1 := HFS.out
       rw [flatI, h1]
       have := HZ.out
       simp [tripL, flatSums, this]
      ·repeat (first | exact HBW | apply below_drew1 | apply pw_below_drewN)
    ·cases (show _ = Value.int .i64 4 from hi)
     have HALL := Lib.hid hall
     clear hall hi
     go_wp2_with fail
     go_ret
     refine ⟨?_, HBW⟩
     rw [flatI, HFS.out]
     have h2 := HALL.out
     rw [show [s0, s1, s2, s3].take 4 = [s0, s1, s2, s3] from rfl] at h2
     simp only [tripL, List.drop, flatSums]
     rw [h2]
     rfl
theorem primeB_bd {p : Int} (h : primeB p = true) : 7 ≤ p ∧ p ≤ 31 := by
 have := of_decide_eq_true h
 omega
/-- the place's word: smooth there -/
def smoothStep (p : Int) (f : List Int) (_ : Bool) (a : List Int) : Bool × Bool := (if valI p f a = 0 then !flatI p f a else true, if valI p f a = 0 then !flatI p f a else true)
/-- what lies in the three captured variables -/
def SmoothInv (w0 : World) (b0 b1 b2 : Nat) (p : Int) (A : Option Addr) (c len : Nat) (n : Bool) (W : World) : Prop :=
 Below w0.heap.size w0 W ∧ W.heap[b0]? = some (.cells #[.int .i64 p] 3 (0, 0)) ∧ W.heap[b1]? = some (.cells #[.slice A len c] 23 (0, 0)) ∧ W.heap[b2]? = some (.cells #[.bool n] 4 (0, 0))
set_option maxHeartbeats 1000000 in
set_option maxRecDepth 100000 in
theorem smoothTell_any (w0 W : World) (b0 b1 b2 : Nat) (hb02 : b0 ≠ b2) (hb12 : b1 ≠ b2) (hlb : w0.heap.size ≤ b2) (p : Int) (hp : p ≠ 0) (A1 : Option Addr) (c1 : Nat) (f : List Int) (hf : f.length = 20) (hr1 : Kd.C (Kd.int .i64) w0 A1 f.length f) (hc1 : f.length ≤ c1) (n : Bool) (a : List Int) (A : Option Addr) (c : Nat)
  (hI : SmoothInv w0 b0 b1 b2 p A1 c1 f.length n W) (hsz : w0.heap.size ≤ W.heap.size) (ha : a.length = 4) (hra : Kd.C (Kd.int .i64) W A a.length a) (hca : a.length ≤ c) :
  Calls Try.prog 59 #[.slice A a.length c, .pointer (some ⟨b0, 0, none⟩), .pointer (some ⟨b1, 0, none⟩), .pointer (some ⟨b2, 0, none⟩)] W fun e w' => e = .returned (.bool (smoothStep p f n a).2) ∧ SmoothInv w0 b0 b1 b2 p A1 c1 f.length (smoothStep p f n a).1 w' ∧ W.heap.size ≤ w'.heap.size := by
 obtain ⟨hb, h0, h1, h2⟩ := hI
 obtain ⟨k, hk⟩ := (valueAt_ev p f a hp hf ha).rounds
 have hx0 : W.cell? ⟨b0, 0, none⟩ = some (.int .i64 p) := (blk_cell h0 0).trans rfl
 have hx1 : W.cell? ⟨b1, 0, none⟩ = some (.slice A1 f.length c1) := (blk_cell h1 0).trans rfl
 have hx2 : W.cell? ⟨b2, 0, none⟩ = some (.bool n) := (blk_cell h2 0).trans rfl
 have hf2 : W.frozen? ⟨b2, 0, none⟩ = false := blk_frozen h2 0
 have hr2 := Kd.C_below hr1 hb
 have HK := Lib.hid hk
 have HF := Lib.hid hf
 have HA := Lib.hid ha
 clear hk hf ha
 by_cases hv : valI p f a = 0
 ·have hvb : (valI p f a != 0) = false := bne_eq_false_iff_eq.mpr hv
  have HV := Lib.hid hv
  clear hv
  go_enter Try.func59, Try.ntmps59
  go_wp2_with fail
  refine (impl_valueAt.calls k p _ _ f _ _ a (valI p f a) W hr2 hc1 hra hca HK.out).mono ?_
  rintro e w1 ⟨rfl, ⟨m, rfl⟩⟩
  go_wp2_with fail
  refine (impl_isFlat.calls2 p hp _ _ f _ _ a (W.drewN m) HF.out HA.out hr2 hc1 hra hca).mono ?_
  rintro e w2 ⟨rfl, hb2⟩
  have hg2 : w2.heap[b2]? = some (.cells #[.bool n] 4 (0, 0)) := by rw [hb2.block _ (blk_lt h2)]; exact h2
  have hy2 : w2.cell? ⟨b2, 0, none⟩ = some (.bool n) := (blk_cell hg2 0).trans rfl
  have hf3 : w2.frozen? ⟨b2, 0, none⟩ = false := blk_frozen hg2 0
  go_wp2
  obtain ⟨fl, hfl⟩ : ∃ fl, (!flatI p f a) = fl := ⟨_, rfl⟩
  have he : smoothStep p f n a = (fl, fl) := by simp only [smoothStep, if_pos HV.out, hfl]
  rw [hfl, he]
  clear hfl; go_ret
  have hz2 : W.heap.size ≤ w2.heap.size := by simpa using hb2.size
  refine ⟨rfl, ⟨((pw_below_drewN hb m).trans (hb2.mono (by simp; omega))).setCell hlb _, ?_, ?_, ?_⟩, by simp [World.setCell]; omega⟩
  ·rw [Below.heap_setCell _ _ _ _ hb02, hb2.block _ (blk_lt h0)]; exact h0
  ·rw [Below.heap_setCell _ _ _ _ hb12, hb2.block _ (blk_lt h1)]; exact h1
  ·simpa using blk_set hg2 0 (.bool fl)
 ·have hvb : (valI p f a != 0) = true := bne_iff_ne.mpr hv
  have HV := Lib.hid hv
  clear hv
  go_enter Try.func59, Try.ntmps59
  go_wp2_with fail
  refine (impl_valueAt.calls k p _ _ f _ _ a (valI p f a) W hr2 hc1 hra hca HK.out).mono ?_
  rintro e w1 ⟨rfl, ⟨m, rfl⟩⟩
  go_wp2; go_ret
  have he : smoothStep p f n a = (true, true) := by simp only [smoothStep, if_neg HV.out]
  rw [he]
  refine ⟨rfl, ⟨(pw_below_drewN hb m).setCell hlb _, ?_, ?_, ?_⟩, by simp [World.setCell]⟩
  ·rw [Below.heap_setCell _ _ _ _ hb02]; exact h0
  ·rw [Below.heap_setCell _ _ _ _ hb12]; exact h1
  ·simpa using blk_set (w := W.drewN m) h2 0 (.bool true)
/-- is the form smooth: at each place, until one is not -/
def smoothI (p : Int) (f : List Int) : Bool := runs (smoothStep p f) true (places p.toNat)
def impl_FormSmooth.f (a0 : Int) (l1 : List Int) : Option Bool :=
 (impl_areNumbers.f a0 l1 20).bind fun t => if t = true then some (smoothI a0 l1) else some false
theorem ret_b {a b : Bool} (h : a = b) : Ending.returned (.bool a) = .returned (.bool b) := by rw [h]
set_option maxHeartbeats 1000000 in
set_option maxRecDepth 100000 in
theorem impl_FormSmooth.calls (a0 : Int) (A1 : Option Addr) (c1 : Nat) (l1 : List Int) (r1 : Bool) (w : World) (hr1 : Kd.C (Kd.int .i64) w A1 l1.length l1) (hc1 : l1.length ≤ c1) (h : impl_FormSmooth.f a0 l1 = some r1) :
  Calls Try.prog 17 #[.int .i64 a0, .slice A1 l1.length c1] w fun e w' => e = .returned (.bool r1) ∧ Below w.heap.size w w' := by
 have hmf : ∀ (fn : Fn) (first cap : Array Value) (w : World), (Instr.makeFunc fn first cap).run Try.prog w = .ok (.func fn first cap) w := fun _ _ _ _ => rfl
 have hb2 : Below w.heap.size w ((w.alloc (.cells #[.int .i64 a0] 3)).alloc (.cells #[.slice A1 l1.length c1] 23)) := ((Below.refl _ _).alloc (Nat.le_refl _) _).alloc (by simp) _
 have hr2 := Kd.C_below hr1 hb2
 obtain ⟨t, ht⟩ : ∃ t, impl_areNumbers.f a0 l1 20 = some t := ⟨_, rfl⟩
 rw [impl_FormSmooth.f, ht] at h
 have H := Lib.hid h
 have HT := Lib.hid ht
 clear h; cases t
 ·clear ht
  go_enter Try.func17, Try.ntmps17
  go_wp2_with fail
  refine (impl_areNumbers.calls a0 _ _ l1 20 false _ hr2 hc1 HT.out).mono ?_
  rintro e w1 ⟨rfl, hb⟩
  go_wp2; go_ret
  exact ⟨ret_b (by simpa using H.out), hb2.trans (hb.mono (by simp; omega))⟩
 ·have hp : primeB a0 = true ∧ l1.length = 20 := by
   have h9 : (primeB a0 && decide ((l1.length : Int) = 20) && l1.all fun x => decide (0 ≤ x) && decide (x < a0)) = true := Option.some.inj ht
   rw [Bool.and_eq_true, Bool.and_eq_true] at h9
   have := of_decide_eq_true h9.1.2
   exact ⟨h9.1.1, by omega⟩
  clear ht
  have hpb := primeB_bd hp.1
  obtain ⟨p, rfl⟩ := Int.eq_ofNat_of_zero_le (show 0 ≤ a0 by omega)
  have HP := Lib.hid hp
  clear hp
  go_enter Try.func17, Try.ntmps17
  go_wp2_with fail
  refine (impl_areNumbers.calls _ _ _ l1 20 true _ hr2 hc1 HT.out).mono ?_
  rintro e w1 ⟨rfl, hb⟩
  have hx0 : w1.heap[w.heap.size]? = some (.cells #[.int .i64 (p : Int)] 3 (0, 0)) := by
   rw [hb.block _ (by simp; omega)]; exact fl_alloc_old (fl_alloc_here _ _) _
  have hx1 : w1.heap[w.heap.size + 1]? = some (.cells #[.slice A1 l1.length c1] 23 (0, 0)) := by
   rw [hb.block _ (by simp)]; simpa using fl_alloc_here (w.alloc (.cells #[.int .i64 (p : Int)] 3)) (.cells #[.slice A1 l1.length c1] 23)
  have hz1 : w.heap.size + 2 ≤ w1.heap.size := by simpa using hb.size
  have hy0 := fl_alloc_old hx0 (.cells #[.bool true] 4)
  have hy1 := fl_alloc_old hx1 (.cells #[.bool true] 4)
  have hy2 := fl_alloc_here w1 (.cells #[.bool true] 4)
  have hbw : Below w.heap.size w (w1.alloc (.cells #[.bool true] 4)) := (hb2.trans (hb.mono (by simp; omega))).alloc (by omega) _
  have hI0 : SmoothInv w w.heap.size (w.heap.size + 1) w1.heap.size p A1 c1 l1.length true (w1.alloc (.cells #[.bool true] 4)) := ⟨hbw, hy0, hy1, hy2⟩
  have hc0 : (w1.alloc (.cells #[.bool true] 4)).cell? ⟨w.heap.size, 0, none⟩ = some (.int .i64 (p : Int)) := (blk_cell hy0 0).trans rfl
  have HI0 := Lib.hid hI0
  clear hI0 hy0 hy1 hy2 hx0 hx1
  go_wp2_with fail
  refine (eachPlace_any 59 #[.pointer (some ⟨w.heap.size, 0, none⟩), .pointer (some ⟨w.heap.size + 1, 0, none⟩), .pointer (some ⟨w1.heap.size, 0, none⟩)] Bool (fun n W => SmoothInv w w.heap.size (w.heap.size + 1) w1.heap.size p A1 c1 l1.length n W) (smoothStep p l1) p true _ (by omega) (by omega) (Go.Proofs.enters_of Try.func59 (by kernel_rfl) rfl) HI0.out ?m ?q).mono ?_
  case m =>
   rintro s W W' ⟨g0, g1, g2, g3⟩ hbe
   refine ⟨g0.trans (hbe.mono (by simp; omega)), ?_, ?_, ?_⟩
   ·rw [hbe.block _ (by simp; omega)]; exact g1
   ·rw [hbe.block _ (by simp; omega)]; exact g2
   ·rw [hbe.block _ (by simp)]; exact g3
  case q =>
   intro s a A c W hI hsz ha hra hca
   rw [← ha]
   exact smoothTell_any w W w.heap.size (w.heap.size + 1) w1.heap.size (by omega) (by omega) (by omega) p (by omega) A1 c1 l1 HP.out.2 hr1 hc1 s a A c hI (hI.1.size) ha hra hca
  rintro e w2 ⟨rfl, g0, g1, g2, g3⟩
  have hx3 : w2.cell? ⟨w1.heap.size, 0, none⟩ = some (.bool (runs (smoothStep p l1) true (places p))) := (blk_cell g3 0).trans rfl
  go_wp2; go_ret
  exact ⟨ret_b (by simpa [smoothI] using H.out), g0⟩/-! ### spec_FormIn: function 56 -/
def spec_FormIn.l0 : Nat → Int → List Int → Int → Option (Bool)
 | 0, _, _, _ => none
 | k + 1, x0, x1, x5 => if x5 < (x1.length : Int) then (if 0 ≤ x5 then ((spec_l6In.f (rd x1 x5) 0 (wrap64 (x0 - 1))).bind fun t506 => (if t506 = true then (spec_FormIn.l0 k x0 x1 (wrap64 (x5 + 1))) else (some false))) else (none)) else ((spec_PrimeIn.f x0).bind fun t507 => (if t507 = true then (some ((x1.length : Int) == 20)) else (some false)))
def spec_FormIn.f (k : Nat) (a0 : Int) (l1 : List Int) : Option (Bool) := spec_FormIn.l0 k a0 l1 0
theorem spec_FormIn.mono_l : ∀ k, (∀ y0 y1 y2, LeO (spec_FormIn.l0 k y0 y1 y2) (spec_FormIn.l0 (k + 1) y0 y1 y2))
 | 0 => fun _ _ _ r h => by simp [spec_FormIn.l0] at h
 | k + 1 => by
  have ih0 := spec_FormIn.mono_l k
  ·intro y0 y1 y2
   unfold spec_FormIn.l0
   repeat' first | (with_reducible first | apply ih0 | exact LeO.refl _ | exact LeO.none _ | refine LeO.ite ?_ ?_ | refine LeO.bind ?_ (fun _ => ?_)) | (first | apply ih0 | exact LeO.none _ | refine LeO.ite ?_ ?_ | refine LeO.bind ?_ (fun _ => ?_))
theorem spec_FormIn.mono : ∀ a0 a1 k, LeO (spec_FormIn.f k a0 a1) (spec_FormIn.f (k + 1) a0 a1) := by
 intro a0 a1 k
 have ih0 := spec_FormIn.mono_l k
 unfold spec_FormIn.f
 repeat' first | (with_reducible first | apply ih0 | exact LeO.refl _ | exact LeO.none _ | refine LeO.ite ?_ ?_ | refine LeO.bind ?_ (fun _ => ?_)) | (first | apply ih0 | exact LeO.none _ | refine LeO.ite ?_ ?_ | refine LeO.bind ?_ (fun _ => ?_))
set_option maxHeartbeats 8000000 in
set_option maxRecDepth 100000 in
theorem spec_FormIn.calls (k : Nat) (a0 : Int) (A1 : Option Addr) (c1 : Nat) (l1 : List Int) (r : Bool) (w : World) (hr1 : Kd.C (Kd.int .i64) w A1 l1.length l1) (hc1 : l1.length ≤ c1) (h : spec_FormIn.f k a0 l1 = some r) :
  Calls Try.prog 56 #[.int .i64 a0, .slice A1 l1.length c1] w fun e w' => e = .returned (.bool r) ∧ Drawn0 w w' := by
 have HR1 := am hr1
 have HC1 := am hc1
 clear hr1 hc1
 have H : (spec_FormIn.l0 k a0 l1 0) = some r := h
 clear h; have H' := am H; clear H
 go_enter Try.func56, Try.ntmps56
 go_wp2
 go_loopg [5] k (fun kq v5 w' => ∃ (x5_1 : Int), v5 = .int .i64 x5_1 ∧ Aside0 (spec_FormIn.l0 kq a0 l1 x5_1 = some r) ∧ Aside0 (kq ≤ k) ∧ Drawn0 w w')
 case atStart => exact ⟨(0), fr, H', ⟨Nat.le_refl _⟩, df⟩
 case round =>
  clear H'; try clear c1; try clear p2
  obtain ⟨x5_1, rfl, HA, HK1, ⟨m1, rfl⟩⟩ := hrel
  cases gk with
  | zero => exact absurd HA.out (by simp [spec_FormIn.l0])
  | succ k1 =>
   have H := HA.out; clear HA
   simp only [spec_FormIn.l0] at H
   by_cases c3 : x5_1 < (l1.length : Int)
   ·rw [if_pos c3] at H
    have c3b0 := decide_eq_true c3; clear c3; replace H := ifn H; obtain ⟨c4, H⟩ := H; have c4b0 := decide_eq_true c4; clear c4; replace H := bs H; obtain ⟨t506, A5, H⟩ := H
    by_cases c6 : t506 = true
    ·subst c6
     rw [if_pos rfl] at H
     have H' := am H; clear H
     have p505 : 0 ≤ (x5_1 : Int) := od
     have q505 : x5_1 < (l1.length : Int) := od
     obtain ⟨ad505, e505, hx505_0⟩ := Kd.at_int HR1.out x5_1 p505 q505
     cases e505; replace p505 := eq_true p505; replace q505 := eq_true q505
     go_wp2_with (first | ((with_reducible refine gate_callee (f := 87) rfl ?_); refine gl 18 Try.func87 #[.int .i64 (rd l1 x5_1), .int .i64 0, .int .i64 (wrap64 (a0 - 1))] ?_; (with_reducible refine (spec_l6In.calls (rd l1 x5_1) 0 (wrap64 (a0 - 1)) true _ A5.out).mono ?_); rintro e w' ⟨rfl, ⟨nd, rfl⟩⟩; refine ⟨_, rfl, ?_⟩))
     go_roundg k1
     case measure => have := HK1.out; omega
     case rel => exact ⟨(wrap64 (x5_1 + 1)), fr, H', ⟨by have := HK1.out; omega⟩, df⟩
    ·replace c6 := Bool.eq_false_iff.mpr c6
     subst c6
     rw [if_neg (show ¬ (false = true) by decide)] at H
     obtain rfl := Option.some.inj H
     have p505 : 0 ≤ (x5_1 : Int) := od
     have q505 : x5_1 < (l1.length : Int) := od
     obtain ⟨ad505, e505, hx505_0⟩ := Kd.at_int HR1.out x5_1 p505 q505
     cases e505; replace p505 := eq_true p505; replace q505 := eq_true q505
     go_wp2_with (first | ((with_reducible refine gate_callee (f := 87) rfl ?_); refine gl 18 Try.func87 #[.int .i64 (rd l1 x5_1), .int .i64 0, .int .i64 (wrap64 (a0 - 1))] ?_; (with_reducible refine (spec_l6In.calls (rd l1 x5_1) 0 (wrap64 (a0 - 1)) false _ A5.out).mono ?_); rintro e w' ⟨rfl, ⟨nd, rfl⟩⟩; refine ⟨_, rfl, ?_⟩))
     go_ret
     exact ⟨fr, df⟩
   ·rw [if_neg c3] at H
    have c3b0 := decide_eq_false c3; clear c3; replace H := bs H; obtain ⟨t507, A7, H⟩ := H
    by_cases c8 : t507 = true
    ·subst c8
     rw [if_pos rfl] at H
     obtain rfl := Option.some.inj H
     go_wp2_with (first | ((with_reducible refine gate_callee (f := 103) rfl ?_); refine gl 21 Try.func103 #[.int .i64 a0] ?_; (with_reducible refine (spec_PrimeIn.calls a0 true _ A7.out).mono ?_); rintro e w' ⟨rfl, ⟨nd, rfl⟩⟩; refine ⟨_, rfl, ?_⟩))
     go_ret
     exact ⟨fr, df⟩
    ·replace c8 := Bool.eq_false_iff.mpr c8
     subst c8
     rw [if_neg (show ¬ (false = true) by decide)] at H
     obtain rfl := Option.some.inj H
     go_wp2_with (first | ((with_reducible refine gate_callee (f := 103) rfl ?_); refine gl 21 Try.func103 #[.int .i64 a0] ?_; (with_reducible refine (spec_PrimeIn.calls a0 false _ A7.out).mono ?_); rintro e w' ⟨rfl, ⟨nd, rfl⟩⟩; refine ⟨_, rfl, ?_⟩))
     go_ret
     exact ⟨fr, df⟩
end Go.Proofs.Ytmgbpmihbljngaa.PA
