-- Written by xprint.py, a program of this claim's own (over the kit's print.py)
import Derived.Test.YtmenehnfgenlpaaPAx0
import Derived.Test.YtmenehnfgenlpaaPAx1
import Derived.Test.YtmenehnfgenlpaaPAx6
import Derived.Test.YtmenehnfgenlpaaPAx7
import Derived.Test.YtmenehnfgenlpaaPAx9
import Derived.Test.YtmenehnfgenlpaaPAx10
import Derived.Deep.Cut
import Derived.Deep.WholeRow
import Derived.Laws.CopyOwn
namespace Go.Proofs.Ytmenehnfgenlpaa.PA
open Go.RowKit Go.Proofs.YtmenehnfgenlpaaW.PrintWords Go.Proofs.YtmenehnfgenlpaaW.PrintLast Go.Proofs.YtmenehnfgenlpaaW.PrintMore
attribute [local go_sem] max2_int min2_int max_two min_two max_three min_three max_four min_four   -- for this text's walks alone
set_option linter.unusedVariables false
set_option linter.unusedSimpArgs false

/-! ### impl_cubeTable: function 53 (by hand) -/
/-- whether two lines of cubes cross -/
def tabCell (k : Nat) (p : Int) (roots : List Int) (i j : Nat) : Option Bool := if i = j then some false else (impl_cubeLine.f k p roots (i : Int)).bind fun l => (impl_cubeLine.f k p roots (j : Int)).bind fun m => impl_crosses.f k p l m
def mapO {α β : Type} (f : α → Option β) : List α → Option (List β)
 | [] => some []
 | x :: l => (f x).bind fun b => (mapO f l).bind fun r => some (b :: r)
theorem mapO_len {α β : Type} (f : α → Option β) : ∀ (l : List α) (r : List β), mapO f l = some r → r.length = l.length
 | [], r, h => by simp [mapO] at h; subst h; rfl
 | x :: l, r, h => by
  rw [mapO] at h
  obtain ⟨b, _, h⟩ := Option.bind_eq_some_iff.1 h
  obtain ⟨q, h2, h⟩ := Option.bind_eq_some_iff.1 h
  obtain rfl := Option.some.inj h
  simp [mapO_len f l q h2]
theorem mapO_get {α β : Type} (f : α → Option β) (d : β) : ∀ (l : List α) (r : List β), mapO f l = some r → ∀ n (hn : n < l.length), f l[n] = some (r.getD n d)
 | x :: l, r, h, n, hn => by
  rw [mapO] at h
  obtain ⟨b, h1, h⟩ := Option.bind_eq_some_iff.1 h
  obtain ⟨q, h2, h⟩ := Option.bind_eq_some_iff.1 h
  obtain rfl := Option.some.inj h
  cases n with
  | zero => simpa using h1
  | succ n => simpa using mapO_get f d l q h2 n (by simpa using hn)
theorem mapO_mono {α β : Type} (f g : α → Option β) (h : ∀ x, LeO (f x) (g x)) : ∀ l, LeO (mapO f l) (mapO g l)
 | [] => LeO.refl _
 | x :: l => by rw [mapO, mapO]; exact LeO.bind (h x) fun _ => LeO.bind (mapO_mono f g h l) fun _ => LeO.refl _
def impl_cubeTable.f (k : Nat) (p : Int) (roots : List Int) : Option (List Bool) := mapO (fun n => tabCell k p roots (n / 27) (n % 27)) (List.range 729)
theorem tabCell_mono (p : Int) (roots : List Int) (i j k : Nat) : LeO (tabCell k p roots i j) (tabCell (k + 1) p roots i j) := by
 unfold tabCell
 exact LeO.ite (LeO.refl _) (LeO.bind (impl_cubeLine.mono _ _ _ _) fun _ => LeO.bind (impl_cubeLine.mono _ _ _ _) fun _ => impl_crosses.mono _ _ _ _)
theorem impl_cubeTable.mono : ∀ a0 a1 k, LeO (impl_cubeTable.f k a0 a1) (impl_cubeTable.f (k + 1) a0 a1) := by
 intro a0 a1 k
 exact mapO_mono _ _ (fun n => tabCell_mono a0 a1 _ _ k) _
/-- the cells when n of them are done -/
def tabArr (r : List Bool) (n : Nat) : Array Value := ((List.range 729).map fun j => Value.bool (if j < n then r.getD j false else false)).toArray
theorem tabArr_size (r : List Bool) (n : Nat) : (tabArr r n).size = 729 := by simp [tabArr]
theorem tabArr_one (r : List Bool) (n : Nat) : (tabArr r n).all (·.oneCell') = true := by simp [tabArr, Value.oneCell']
theorem tabArr_zero (r : List Bool) : tabArr r 0 = Array.replicate 729 (.bool false) := by
 apply Array.ext <;> simp [tabArr]
theorem tabArr_set (r : List Bool) (n : Nat) (h : n < 729) : (tabArr r n).setIfInBounds n (.bool (r.getD n false)) = tabArr r (n + 1) := by
 apply Array.ext
 ·simp [tabArr]
 ·intro i h1 h2
  have hi : i < 729 := by simpa [tabArr] using h2
  rw [Array.getElem_setIfInBounds (by simpa [tabArr] using hi)]
  by_cases e : n = i
  ·subst e; simp [tabArr]
  ·rw [if_neg e]; simp [tabArr]
   rw [show decide (i < n) = decide (i < n + 1) from decide_eq_decide.2 (by omega)]
theorem tabArr_full (r : List Bool) (h : r.length = 729) : tabArr r 729 = (r.map Value.bool).toArray := by
 apply Array.ext
 ·simp [tabArr, h]
 ·intro i h1 h2
  have hi : i < 729 := by simpa [tabArr] using h1
  simp [tabArr, hi, List.getD_eq_getElem?_getD, h]
theorem zero56 : Try.zeroCells56 = Array.replicate 729 (.bool false) := by kernel_rfl
def impl_cubeTable.T8 : Bool × List (List Nat × List Nat) := (true, [([], []), ([], []), ([], []), ([], []), ([2, 3], [2, 3]), ([4], [4]), ([5], [5]), ([5], [5]), ([5], [5]), ([5], [5]), ([7, 8, 9, 5, 5], [5, 7, 8, 9]), ([5], [5]), ([5], [5]), ([5], [5]), ([11, 12, 13, 10, 5], [5, 11, 12, 13]), ([6, 10, 14, 14, 5], [5, 6, 10, 14]), ([5, 15], [5, 15]), ([0], [0]), ([17, 1, 0, 1, 2, 3, 4, 5, 6, 7, 8, 9, 10, 11, 12, 13, 14, 15, 16], [1, 17]), ([18, 16, 15, 0, 1, 2, 3, 4, 5, 6, 7, 8, 9, 10, 11, 12, 13, 14, 15, 16], [16, 18])])
def impl_cubeTable.B8 : List Nat := [0, 0, 0, 0, 12, 28, 60, 60, 60, 60, 956, 60, 60, 60, 16316, 32764, 65532, 1, 262143, 524287]
theorem impl_cubeTable.tab8 : rtab .any (opsOf Try.f53 8) = impl_cubeTable.T8 := by kernel_rfl
theorem impl_cubeTable.bits8 : waitsOk impl_cubeTable.T8.2 impl_cubeTable.B8 = true := by kernel_rfl
theorem ct_old {w : World} {b : Nat} {o : Obj} (h : w.heap[b]? = some o) (o2 : Obj) : (w.alloc o2).heap[b]? = some o := by rw [Below.heap_alloc _ _ _ (Array.getElem?_eq_some_iff.1 h).1]; exact h
theorem ct_below {w w1 : World} (h : Below w.heap.size w w1) (o : Nat) (v : Value) : Below w.heap.size w (w1.setCell ⟨w.heap.size + 1, o, none⟩ v) := h.trans ((Below.refl _ _).setCell (p := ⟨w.heap.size + 1, o, none⟩) (by simp) v)
theorem ct_other {w : World} {b g : Nat} {o : Obj} (hne : b ≠ g) (h : w.heap[b]? = some o) (q : Nat) (v : Value) : (w.setCell ⟨g, q, none⟩ v).heap[b]? = some o := by rw [Below.heap_setCell _ _ _ _ hne]; exact h
theorem ct_here {w : World} {g t q n : Nat} {r : List Bool} {b : Bool} (hb : r.getD n false = b) (hn : n < 729) (hq : n = q) (h : w.heap[g]? = some (.cells (tabArr r n) t (0, 0))) : (w.setCell ⟨g, q, none⟩ (.bool b)).heap[g]? = some (.cells (tabArr r (n + 1)) t (0, 0)) := by
 subst hq
 have := blk_set h n (.bool b)
 rw [← hb, tabArr_set r n hn] at this
 rw [← hb]; exact this
theorem tab_facts {k : Nat} {p : Int} {l1 : List Int} {r : List Bool} (h : impl_cubeTable.f k p l1 = some r) : r.length = 729 ∧ ∀ i j : Nat, i < 27 → j < 27 → tabCell k p l1 i j = some (r.getD (27 * i + j) false) := by
 refine ⟨by simpa using mapO_len _ _ _ h, fun i j hi hj => ?_⟩
 have := mapO_get _ false _ _ h (27 * i + j) (by simp; omega)
 simp only [List.getElem_range] at this
 rw [show (27 * i + j) / 27 = i by omega, show (27 * i + j) % 27 = j by omega] at this
 exact this
set_option maxHeartbeats 4000000 in
set_option maxRecDepth 100000 in
theorem impl_cubeTable.calls (k : Nat) (p : Int) (A1 : Option Addr) (c1 : Nat) (l1 : List Int) (r : List Bool) (w : World) (hr1 : Kd.C (Kd.int .i64) w A1 l1.length l1) (hc1 : l1.length ≤ c1) (h : impl_cubeTable.f k p l1 = some r) :
  Calls Try.prog 53 #[.int .i64 p, .slice A1 l1.length c1] w fun e w' => e = .returned (.agg (r.map Value.bool).toArray) ∧ Below w.heap.size w w' := by
 have hf := tab_facts h
 have HF := Lib.hid hf
 have HR := Lib.hid hr1
 have HC := Lib.hid hc1
 clear hf hr1 hc1 h
 have hZ : Try.zeroCells56 = tabArr r 0 := by rw [zero56, tabArr_zero]
 have hsz : (Try.zeroCells56).size = 729 := by rw [hZ, tabArr_size]
 have hinf : (Try.prog.info? 56).map (·.size) = some 729 := by kernel_rfl
 have hst0 := run_storeCells_new (P := Try.prog) (w.alloc (.cells Try.zeroCells56 56)) 56 Try.zeroCells56 Try.zeroCells56 (by rw [hsz]; exact hinf) rfl (by rw [hZ]; exact tabArr_one r 0)
 have hst : Sem.run Try.prog (storeCells ⟨w.heap.size + 1, 0, none⟩ (Try.zeroCells56).toList) ((w.alloc (.cells Try.zeroCells56 56)).alloc (.cells Try.zeroCells56 56)) = .ok () ((w.alloc (.cells Try.zeroCells56 56)).alloc (.cells Try.zeroCells56 56)) := by simpa using hst0
 have HZ := Lib.hid hZ
 clear hZ hsz hst0
 have HINF := Lib.hid hinf
 clear hinf
 go_enter Try.func53, Try.ntmps53
 go_wp2
 rw [HZ.out] at hst ⊢
 go_loopw [9] (fun i w' => ∃ n : Nat, n ≤ 27 ∧ i = .int .i64 n ∧ Below w.heap.size w w' ∧ w'.heap[w.heap.size]? = some (.cells (tabArr r 0) 56 (0, 0)) ∧ w'.heap[w.heap.size + 1]? = some (.cells (tabArr r (27 * n)) 56 (0, 0))) (fun i _ => 27 - (intOf i).toNat)
 case atStart => exact ⟨0, by omega, rfl, ((Below.refl _ _).alloc (Nat.le_refl _) _).alloc (by simp) _, ct_old (heap_alloc_last w _) _, by simpa using heap_alloc_last (w.alloc (.cells (tabArr r 0) 56)) (.cells (tabArr r 0) 56)⟩
 case round =>
  clear hst
  obtain ⟨n, hn, rfl, hB, h0, h1⟩ := hrel
  have HB := Lib.hid hB
  have H0 := Lib.hid h0
  have H1 := Lib.hid h1
  have HN := Lib.hid hn
  clear hB h0 h1 hn
  by_cases hlt : n < 27
  ·have hd : decide ((n : Int) < 27) = true := decide_eq_true (by omega)
   have HLT := Lib.hid hlt
   clear hlt; go_wp2
   go_loopw [12] (fun x w' => ∃ m : Nat, m ≤ 27 ∧ x = .int .i64 m ∧ Below w.heap.size w w' ∧ w'.heap[w.heap.size]? = some (.cells (tabArr r 0) 56 (0, 0)) ∧ w'.heap[w.heap.size + 1]? = some (.cells (tabArr r (27 * n + m)) 56 (0, 0))) (fun x _ => 27 - (intOf x).toNat)
   case atStart => exact ⟨0, by omega, rfl, HB.out, H0.out, H1.out⟩
   case round =>
    clear HB H0 H1
    obtain ⟨m, hm, rfl, hB, h0, h1⟩ := hrel
    have HB := Lib.hid hB
    have H0 := Lib.hid h0
    have H1 := Lib.hid h1
    have HM := Lib.hid hm
    clear hB h0 h1 hm hd
    by_cases hmt : m < 27
    ·have hd : decide ((m : Int) < 27) = true := decide_eq_true (by omega)
     have HMT := Lib.hid hmt
     clear hmt
     by_cases he : n = m
     ·subst he
      have hne : ((n : Int) != (n : Int)) = false := by simp
      have hc := HF.out.2 n n HLT.out HMT.out
      rw [tabCell, if_pos rfl] at hc
      obtain ⟨b, eb⟩ : ∃ b, r.getD (27 * n + n) false = b := ⟨_, rfl⟩
      obtain rfl : false = b := (Option.some.inj hc).trans eb
      have HEB := Lib.hid eb
      clear hc eb
      have p1 : (0 ≤ (n : Int)) = True := eq_true (by omega)
      have p2 : ((n : Int) < 27) = True := eq_true (by have := HLT.out; omega)
      go_wp2
      refine st 20 (fun w' => True) [] impl_cubeTable.tab8 impl_cubeTable.bits8 trivial fun hHeld HT_ HW_ => ?_
      refine pz 0 15 HT_ ?_; refine pz 1 16 HT_ ?_; refine pz 2 17 HT_ ?_; refine pz 3 18 HT_ ?_; refine pz 4 19 HT_ ?_; refine pz 5 20 HT_ ?_; refine po 6 21 HT_ ?_; refine po 7 22 HT_ ?_; refine po 8 23 HT_ ?_; refine po 9 24 HT_ ?_; refine po 10 25 HT_ ?_; refine po 11 26 HT_ ?_; refine po 12 27 HT_ ?_; refine po 13 28 HT_ ?_; refine po 14 29 HT_ ?_; refine po 15 30 HT_ ?_; refine pz 16 31 HT_ ?_; refine pz 17 32 HT_ ?_; refine pz 18 33 HT_ ?_
      have hx : wr.drew.cell? ⟨w.heap.size + 1, n * 27 + n, none⟩ = some ((tabArr r (27 * n + n)).getD (n * 27 + n) undef) := by
       rw [cell_of_row wr.drew _ _ _ _ _ H1.out, Array.getD_eq_getD_getElem?, Array.getElem?_eq_getElem (by rw [tabArr_size]; have := HLT.out; omega)]; rfl
      have hfz : wr.drew.frozen? ⟨w.heap.size + 1, n * 27 + n, none⟩ = false := blk_frozen (w := wr.drew) H1.out _
      refine on 19 none HT_ fun K hK => ?_
      refine skip_ (w1 := ?_) (by rfl) rfl ?_ ?_
      rotate_left
      ·go_simp
       rfl
      refine hK.out _ _ trivial fun _ => ?_
      clear hK K
      refine done_ (done_of HT_.out (by kernel_rfl)) ?_
      have hw1 : wrap64 ((n : Int) + 1) = ((n + 1 : Nat) : Int) := by have := HLT.out; unfold wrap64; omega
      clear hx hfz; go_wp2
      go_roundw
      case measure => (try rw [hw1]); simp only [intOf]; have := HMT.out; omega
      case rel => exact ⟨n + 1, by have := HMT.out; omega, by first | rw [hw1] | go_num, ct_below HB.out.drew _ _, ct_other (w := wr.drew) (by omega) H0.out _ _, ct_here (w := wr.drew) (n := 27 * n + n) HEB.out (by have := HLT.out; omega) (by omega) H1.out⟩
     ·have hne : ((n : Int) != (m : Int)) = true := bne_iff_ne.mpr (by omega)
      have hc := HF.out.2 n m HLT.out HMT.out
      rw [tabCell, if_neg he] at hc
      replace hc := Option.bind_eq_some_iff.1 hc
      obtain ⟨l, hl, hc⟩ := hc
      replace hc := Option.bind_eq_some_iff.1 hc
      obtain ⟨q, hq, hc⟩ := hc
      have HL := Lib.hid hl
      have HQ := Lib.hid hq
      have HCR := Lib.hid hc
      have HE := Lib.hid he
      obtain ⟨b, eb⟩ : ∃ b, r.getD (27 * n + m) false = b := ⟨_, rfl⟩
      rw [eb] at HCR
      have HEB := Lib.hid eb
      clear hl hq hc he eb
      have p1 : (0 ≤ (n : Int)) = True := eq_true (by omega)
      have p2 : ((n : Int) < 27) = True := eq_true (by have := HLT.out; omega)
      have p3 : (0 ≤ (m : Int)) = True := eq_true (by omega)
      have p4 : ((m : Int) < 27) = True := eq_true (by have := HMT.out; omega)
      go_wp2
      refine st 20 (fun w' => True) [] impl_cubeTable.tab8 impl_cubeTable.bits8 trivial fun hHeld HT_ HW_ => ?_
      refine pz 0 15 HT_ ?_; refine pz 1 16 HT_ ?_; refine pz 2 17 HT_ ?_; refine pz 3 18 HT_ ?_; refine pz 4 19 HT_ ?_; refine pz 5 20 HT_ ?_; refine pz 6 21 HT_ ?_; refine pz 7 22 HT_ ?_; refine pz 8 23 HT_ ?_; refine pz 9 24 HT_ ?_; refine pz 11 26 HT_ ?_; refine pz 12 27 HT_ ?_; refine pz 13 28 HT_ ?_; refine pz 17 32 HT_ ?_
      refine on 10 (some 25) HT_ fun K hK => ?_
      refine gs_ Try.func71 #[.int .i64 p, .slice A1 l1.length c1, .int .i64 n] ?_
      refine (impl_cubeLine.calls k p A1 c1 l1 (n : Int) l _ (Kd.C_below HR.out HB.out.drew) HC.out HL.out).mono ?_
      rintro e w1 ⟨v0, rfl, hv, hb⟩
      obtain ⟨B1, d1, e1⟩ := Kd.R_slice hv
      subst e1
      have HW1 := Lib.hid (below_step HB.out.drew hb)
      have HX1 := Lib.hid ((Below.refl wr.heap.size wr).drew.trans hb)
      have HV1 := Lib.hid (Kd.R_reads' hv)
      clear hv hb
      refine ⟨_, rfl, ?_⟩
      refine hK.out _ _ trivial fun _ => nz ?_
      clear hK K
      refine on 14 (some 29) HT_ fun K hK => ?_
      refine gs_ Try.func71 #[.int .i64 p, .slice A1 l1.length c1, .int .i64 m] ?_
      refine (impl_cubeLine.calls k p A1 c1 l1 (m : Int) q _ (Kd.C_below HR.out HW1.out) HC.out HQ.out).mono ?_
      rintro e w2 ⟨v0, rfl, hv, hb⟩
      obtain ⟨B2, d2, e2⟩ := Kd.R_slice hv
      subst e2
      have HW2 := Lib.hid (below_step HW1.out hb)
      have HX2 := Lib.hid (below_step HX1.out hb)
      have HV2 := Lib.hid (Kd.R_reads' hv)
      have HV3 := Lib.hid (Kd.C_below HV1.out.2.2 hb)
      clear hv hb
      refine ⟨_, rfl, ?_⟩
      refine hK.out _ _ trivial fun _ => nz ?_
      clear hK K
      refine on 15 (some 30) HT_ fun K hK => ?_
      refine gs_ Try.func46 #[.int .i64 p, .slice B1 l.length d1, .slice B2 q.length d2] ?_
      refine (impl_crosses.calls k p B1 d1 l B2 d2 q _ _ HV3.out HV1.out.2.1 HV2.out.2.2 HV2.out.2.1 HCR.out).mono ?_
      rintro e w3 ⟨rfl, hb⟩
      have HW3 := Lib.hid (below_step HW2.out hb)
      have HX3 := Lib.hid (below_step HX2.out hb)
      clear hb
      refine ⟨_, rfl, ?_⟩
      refine hK.out _ _ trivial fun _ => nz ?_
      clear hK K; refine pz 16 31 HT_ ?_; refine pz 18 33 HT_ ?_
      have h1' : w3.heap[w.heap.size + 1]? = some (.cells (tabArr r (27 * n + m)) 56 (0, 0)) := (HX3.out.block _ (Array.getElem?_eq_some_iff.1 H1.out).1).trans H1.out
      have hx : w3.cell? ⟨w.heap.size + 1, n * 27 + m, none⟩ = some ((tabArr r (27 * n + m)).getD (n * 27 + m) undef) := by
       rw [cell_of_row _ _ _ _ _ _ h1', Array.getD_eq_getD_getElem?, Array.getElem?_eq_getElem (by rw [tabArr_size]; have := HLT.out; have := HMT.out; omega)]; rfl
      have hfz : w3.frozen? ⟨w.heap.size + 1, n * 27 + m, none⟩ = false := blk_frozen h1' _
      have H1' := Lib.hid h1'
      clear h1'
      refine on 19 none HT_ fun K hK => ?_
      refine skip_ (w1 := ?_) (by rfl) rfl ?_ ?_
      rotate_left
      ·go_simp
       rfl
      refine hK.out _ _ trivial fun _ => ?_
      clear hK K
      refine done_ (done_of HT_.out (by kernel_rfl)) ?_
      have hw1 : wrap64 ((m : Int) + 1) = ((m + 1 : Nat) : Int) := by have := HMT.out; unfold wrap64; omega
      clear hx hfz; go_wp2
      go_roundw
      case measure => (try rw [hw1]); simp only [intOf]; have := HMT.out; omega
      case rel => exact ⟨m + 1, by have := HMT.out; omega, by first | rw [hw1] | go_num, ct_below HW3.out _ _, ct_other (by omega) ((HX3.out.block _ (Array.getElem?_eq_some_iff.1 H0.out).1).trans H0.out) _ _, ct_here (n := 27 * n + m) HEB.out (by have := HLT.out; have := HMT.out; omega) (by omega) H1'.out⟩
    ·have hme : m = 27 := by have := HM.out; omega
     subst hme
     have hd : decide (((27 : Nat) : Int) < 27) = false := rfl
     have hw1 : wrap64 ((n : Int) + 1) = ((n + 1 : Nat) : Int) := by have := HLT.out; unfold wrap64; omega
     clear hmt; go_wp2
     go_roundw
     case measure => (try rw [hw1]); simp only [intOf]; have := HLT.out; omega
     case rel => exact ⟨n + 1, by have := HLT.out; omega, by first | rw [hw1] | go_num, HB.out, H0.out, by rw [show 27 * (n + 1) = 27 * n + 27 by omega]; exact H1.out⟩
  ·have hne : n = 27 := by have := HN.out; omega
   subst hne
   have hd : decide (((27 : Nat) : Int) < 27) = false := rfl
   clear hlt
   have hs9 : (tabArr r 729).size = 729 := tabArr_size r 729
   have hst := run_storeCells_from (P := Try.prog) w.heap.size 56 (tabArr r 729).toList 0 (tabArr r 0) wr H0.out (by simp [tabArr_size]) (fun v hv => (Array.all_eq_true_iff_forall_mem.1 (tabArr_one r 729)) v (by simpa using hv))
   rw [show ((tabArr r 0).toList.take 0 ++ (tabArr r 729).toList).toArray = tabArr r 729 by simp] at hst
   go_wp2_with (refine wpList_load_row rfl 56 (.tmp 5) rfl (w.heap.size + 1) rfl 56 (tabArr r 729) (0, 0) _ H1.out Try.underlying56 rfl (by rw [tabArr_size]; exact HINF.out) ?_)
   have hh : (wr.setRow w.heap.size (tabArr r 729)).heap[w.heap.size]? = some (.cells (tabArr r 729) 56 (0, 0)) := setRow_heap wr w.heap.size _ _ _ _ H0.out
   refine bodyPost_ret (v := .agg (tabArr r 729)) (results_cell_row (p := 4) (ty := 56) rfl _ _ w.heap.size 56 (tabArr r 729) (0, 0) _ rfl hh Try.underlying56 rfl (by rw [tabArr_size]; exact HINF.out)) rfl ⟨by rw [tabArr_full r HF.out.1], ?_⟩
   exact below_setRow HB.out (Nat.le_refl _) _/-! ### impl_linesThat: function 54 (by hand) -/
set_option maxHeartbeats 2000000 in
/-- linesThat: the indexes at which the asked function says yes -/
theorem linesThat_any (g : Nat) (lb : Array Value) (q : Nat → Bool) (w : World)
  (he : ∀ args w, (callFunc g args).run Try.prog w = .ok (.enter g args) w)
  (hq : ∀ (j : Nat) (W : World), j < 27 → Below w.heap.size w W → Calls Try.prog g (#[.int .i64 (j : Int)] ++ lb) W fun e w' => e = .returned (.bool (q j)) ∧ Below W.heap.size W w') :
  Calls Try.prog 54 #[.func (.func g) #[] lb] w fun e w' => ∃ v : Value, e = .returned v ∧ Kd.R (Kd.int .i64) 3 w' w.heap.size (fun _ => True) v (((List.range 27).filter q).map fun (j : Nat) => (j : Int)) ∧ Below w.heap.size w w' := by
 have HQ := Lib.hid hq
 clear hq
 go_enter Try.func54, Try.ntmps54
 go_wp2_with (first | ((with_reducible refine gate_dst (N := 5) rfl ?_); refine li 3 ([] : List Int) ?_; intro v0 w0 ho hb; have HO := Lib.hid ho; have HB := Lib.hid hb; clear ho hb))
 go_loopw [3, 6] (fun v i w' => ∃ j : Nat, j ≤ 27 ∧ i = .int .i64 j ∧ Kd.R (Kd.int .i64) 3 w' w.heap.size (fun _ => True) v (((List.range j).filter q).map fun (j : Nat) => (j : Int)) ∧ Below w.heap.size w w') (fun _ i _ => 27 - (intOf i).toNat)
 case atStart => exact ⟨0, by omega, rfl, HO.out, HB.out⟩
 case round =>
  clear HO HB
  obtain ⟨j, hj, rfl, ho, hb⟩ := hrel
  have HO := am ho
  have HB := am hb
  have HJ := am hj
  clear ho hb hj
  by_cases hlt : j < 27
  ·have hd : decide ((j : Int) < 27) = true := decide_eq_true (by omega)
   have HLT := am hlt
   have HC := am (HQ.out j wr hlt HB.out)
   clear hlt
   have hw1 : wrap64 ((j : Int) + 1) = ((j + 1 : Nat) : Int) := by have := HLT.out; unfold wrap64; omega
   cases hv : q j with
   | false =>
    rw [hv] at HC
    have HV := am hv
    clear hv
    go_wp2_with fail
    refine (HC.out).mono ?_
    rintro e w1 ⟨rfl, hb1⟩
    have HB1 := am hb1
    clear hb1; go_wp2
    go_roundw
    case measure => (try rw [hw1]); simp only [intOf]; have := HLT.out; omega
    case rel => exact ⟨j + 1, by have := HLT.out; omega, by first | rw [hw1] | go_num, by rw [List.range_succ, List.filter_append]; simp [HV.out]; exact Kd.R_below HO.out HB1.out, below_step HB.out HB1.out⟩
   | true =>
    rw [hv] at HC
    have HV := am hv
    clear hv
    go_wp2_with fail
    refine (HC.out).mono ?_
    rintro e w1 ⟨rfl, hb1⟩
    have HO1 := am (Kd.R_below HO.out hb1)
    have HB1 := am (below_step HB.out hb1)
    clear hb1
    go_wp2_with (first | ((with_reducible refine gate_builtin (b := .append) (xs := #[.tmp 12, .tmp 14]) rfl ?_); at_builtin; refine Kd.R_append (Kd.int .i64) (w0 := w) w.heap.size rfl (.tmp 12) (.tmp 14) 22 3 (.int .i64 0) 8 rfl Try.underlying22 info3 rfl (by decide) (by omega) u3 (((List.range j).filter q).map fun (j : Nat) => (j : Int)) (j : Int) [.int .i64 (j : Int)] (fun _ => True) (fun _ => False) rfl rfl ?aP (fun _ hk => hk.elim) ?aF ?aO ?aB ?aS ?aL ?_; (case aP => exact rfl); (case aB => exact HB1.out); (case aF => exact (fun _ _ => trivial)); (case aO => exact HO1.out); (case aS => exact HB1.out.size); (case aL => (have h9 := List.length_filter_le q (List.range j); have h8 := HLT.out; rw [List.length_range] at h9; rw [List.length_map]; omega)); intro v2 w3 ho hb hg hat; have HO2 := am ho; have HB2 := am hb; clear ho hb hg hat))
    go_roundw
    case measure => (try rw [hw1]); simp only [intOf]; have := HLT.out; omega
    case rel => exact ⟨j + 1, by have := HLT.out; omega, by first | rw [hw1] | go_num, by rw [List.range_succ, List.filter_append]; simp [HV.out]; simpa using HO2.out, HB2.out⟩
  ·have hje : j = 27 := by have := HJ.out; omega
   subst hje
   have hd : decide (((27 : Nat) : Int) < 27) = false := rfl
   clear hlt; go_wp2; go_ret
   exact ⟨_, rfl, HO.out, HB.out⟩/-! ### impl_CubeMeeting: function 20 (by hand) -/
set_option maxHeartbeats 1000000 in
theorem cmTell_any (b : Nat) (C : Array Value) (q : Nat → Bool) (hC : ∀ j, j < 27 → C[j]? = some (.bool (q j))) (j : Nat) (hj : j < 27) (W : World) (hg : W.heap[b]? = some (.cells C 55 (0, 0))) :
  Calls Try.prog 55 (#[.int .i64 (j : Int)] ++ #[.pointer (some ⟨b, 0, none⟩)]) W fun e w' => e = .returned (.bool (q j)) ∧ Below W.heap.size W w' := by
 have hx : W.cell? ⟨b, j, none⟩ = some (.bool (q j)) := by rw [cell_of_row _ _ _ _ _ _ hg]; exact hC j hj
 have p1 : (0 ≤ (j : Int)) = True := eq_true (by omega)
 have p2 : ((j : Int) < 27) = True := eq_true (by omega)
 clear hC hg hj
 show Calls Try.prog 55 #[.int .i64 (j : Int), .pointer (some ⟨b, 0, none⟩)] W _
 go_enter Try.func55, Try.ntmps55
 go_wp2; go_ret
 exact ⟨rfl, Below.refl _ _⟩
/-- what CubeMeeting tells -/
def impl_CubeMeeting.f (n : Nat) (p k : Int) : Option (List Int × Bool) := (impl_cubeRoots.f n p).bind fun t => if t.length = 3 then ((impl_isLine.f k).bind fun b => if b = true then ((impl_cubeTable.f n p t).bind fun T => some ((((List.range 27).filter fun j => T.getD (27 * k.toNat + j) false).map fun (j : Nat) => (j : Int)), true)) else some ([], false)) else some ([], false)
theorem impl_CubeMeeting.mono : ∀ a0 a1 k, LeO (impl_CubeMeeting.f k a0 a1) (impl_CubeMeeting.f (k + 1) a0 a1) := by
 intro a0 a1 k
 unfold impl_CubeMeeting.f
 exact LeO.bind (impl_cubeRoots.mono _ _) fun _ => LeO.ite (LeO.bind (LeO.refl _) fun _ => LeO.ite (LeO.bind (impl_cubeTable.mono _ _ _) fun _ => LeO.refl _) (LeO.refl _)) (LeO.refl _)
set_option maxHeartbeats 4000000 in
set_option maxRecDepth 100000 in
theorem impl_CubeMeeting.calls (n : Nat) (p k : Int) (r1 : List Int) (r2 : Bool) (w : World) (h : impl_CubeMeeting.f n p k = some (r1, r2)) :
  Calls Try.prog 20 #[.int .i64 p, .int .i64 k] w fun e w' => ∃ v : Value, e = .returned (.tuple #[v, .bool r2]) ∧ Kd.R (Kd.int .i64) 3 w' w.heap.size (fun _ => True) v r1 ∧ Below w.heap.size w w' := by
 have hmf : ∀ (fn : Fn) (first cap : Array Value) (w : World), (Instr.makeFunc fn first cap).run Try.prog w = .ok (.func fn first cap) w := fun _ _ _ _ => rfl
 replace h := Option.bind_eq_some_iff.1 h
 obtain ⟨t, ht, h⟩ := h
 have HT := am ht
 have H := am h
 clear ht h
 by_cases h3 : t.length = 3
 ·have H2 : Aside0 (((impl_isLine.f k).bind fun b => if b = true then ((impl_cubeTable.f n p t).bind fun T => some ((((List.range 27).filter fun j => T.getD (27 * k.toNat + j) false).map fun (j : Nat) => (j : Int)), true)) else some ([], false)) = some (r1, r2)) := am (by have h := H.out; rwa [if_pos h3] at h)
  obtain ⟨b, hb, h⟩ := Option.bind_eq_some_iff.1 H2.out
  have HB := am hb
  have HH := am h
  clear hb h H H2
  cases b with
  | false =>
   obtain ⟨rfl, rfl⟩ : [] = r1 ∧ false = r2 := by have h := HH.out; simpa using h
   go_enter Try.func20, Try.ntmps20
   go_wp2_with fail
   refine (impl_cubeRoots.calls n p t _ HT.out).mono ?_
   rintro e w1 ⟨v0, rfl, hv, hb⟩
   obtain ⟨B1, d1, e1⟩ := Kd.R_slice hv
   subst e1
   have HB1 := am hb
   clear hv hb
   have hq : ((t.length : Int) != 3) = false := by simp; omega
   go_wp2_with fail
   refine (impl_isLine.calls k false _ HB.out).mono ?_
   rintro e w2 ⟨rfl, ⟨q, rfl⟩⟩
   go_wp2
   go_ret2
   exact ⟨_, rfl, Kd.R_nil _ _ _ _ _, pw_below_drewN HB1.out q⟩
  | true =>
   replace HH := Option.bind_eq_some_iff.1 HH.out
   obtain ⟨T, hT, h⟩ := HH
   obtain ⟨rfl, rfl⟩ : (((List.range 27).filter fun j => T.getD (27 * k.toNat + j) false).map fun (j : Nat) => (j : Int)) = r1 ∧ true = r2 := by simpa using h
   have HTF := am hT
   have htl := (tab_facts hT).1
   obtain ⟨m, hm, rfl⟩ : ∃ m : Nat, m < 27 ∧ (m : Int) = k := by
    have hb := HB.out
    unfold impl_isLine.f at hb
    split at hb
    ·have hb := of_decide_eq_true (Option.some.inj hb)
     exact ⟨k.toNat, by omega, by omega⟩
    ·simp at hb
   clear hT h
   obtain ⟨C, hC⟩ : ∃ C : Array Value, C = (T.map Value.bool).toArray := ⟨_, rfl⟩
   have hCs : C.size = 729 := by rw [hC]; simp [htl]
   obtain ⟨R, hR⟩ : ∃ R : Array Value, R = C.extract (m * 27) (m * 27 + 27) := ⟨_, rfl⟩
   have hRs : R.size = 27 := by rw [hR, Array.size_extract, hCs]; omega
   have hRq : ∀ j, j < 27 → R[j]? = some (.bool (T.getD (27 * m + j) false)) := by
    intro j hj
    rw [hR, Array.getElem?_extract, if_pos (by rw [hCs]; omega), hC, List.getElem?_toArray, List.getElem?_map, List.getElem?_eq_getElem (by omega : m * 27 + j < T.length), List.getD_eq_getElem?_getD, List.getElem?_eq_getElem (by omega : 27 * m + j < T.length)]
    simp [Nat.mul_comm]
   have hR1 : R.all (·.oneCell') = true := by
    rw [Array.all_eq_true]
    intro i hi
    have := hRq i (by omega)
    rw [Array.getElem?_eq_getElem hi] at this
    rw [Option.some.inj this]; rfl
   have hu := Try.underlying56
   have hix : ∀ W : World, (Instr.index 56 (.agg C) (.int .i64 (m : Int))).run Try.prog W = .ok (.agg R) W := by
    intro W
    have h1 : Sem.run Try.prog (asIntOf (Value.int IntKind.i64 (m : Int))) W = .ok (.i64, (m : Int)) W := rfl
    have h2 : Sem.run Try.prog (part 55 C (m * 27)) W = .ok (.agg R) W := by
     have := Try.underlying55
     have hs : Try.t55.size = 27 := by kernel_rfl
     simp [part, isAgg, sizeOf, this, Sem.run]
     rw [hs, hR]
    simp [Instr.index, hu, Sem.run, h1, h2]
    intro h9; omega
   obtain ⟨Z0_, hZ0⟩ : ∃ Z : Array Value, Z = #[.bool false, .bool false, .bool false, .bool false, .bool false, .bool false, .bool false, .bool false, .bool false, .bool false, .bool false, .bool false, .bool false, .bool false, .bool false, .bool false, .bool false, .bool false, .bool false, .bool false, .bool false, .bool false, .bool false, .bool false, .bool false, .bool false, .bool false] := ⟨_, rfl⟩
   have hz : (Z0_).size = 27 := by rw [hZ0]; rfl
   have hinf : (Try.prog.info? 55).map (·.size) = some 27 := by kernel_rfl
   have hst : ∀ W : World, Sem.run Try.prog (storeCells ⟨W.heap.size, 0, none⟩ R.toList) (W.alloc (.cells Z0_ 55)) = .ok () (W.alloc (.cells R 55)) := by
    intro W
    exact run_storeCells_new (P := Try.prog) W 55 Z0_ R (by rw [hRs]; exact hinf) (by rw [hz, hRs]) hR1
   have HC := am hC
   clear htl hR hCs hR1 hu hinf hz hC
   have HM := am hm
   have HRQ := am hRq
   rw [hZ0] at hst
   clear hZ0; clear hm hRq
   have hq : ((t.length : Int) != 3) = false := by simp; omega
   clear h3
   go_enter Try.func20, Try.ntmps20
   go_wp2_with fail
   refine (impl_cubeRoots.calls n p t _ HT.out).mono ?_
   rintro e w1 ⟨v0, rfl, hv, hb⟩
   obtain ⟨B1, d1, e1⟩ := Kd.R_slice hv
   subst e1
   have HB1 := am hb
   have HV1 := am (Kd.R_reads' hv)
   clear hv hb
   go_wp2_with fail
   refine (impl_isLine.calls (m : Int) true _ HB.out).mono ?_
   rintro e w2 ⟨rfl, ⟨q, rfl⟩⟩
   go_wp2_with fail
   refine (impl_cubeTable.calls n p B1 d1 t T _ ?_ ?_ HTF.out).mono ?_
   ·exact Kd.C_below HV1.out.2.2 gs
   ·exact HV1.out.2.1
   rintro e w3 ⟨rfl, hb⟩
   rw [← HC.out]
   have HB3 := am (below_step (pw_below_drewN HB1.out q) hb)
   clear hb
   go_wp2_with fail
   refine (linesThat_any 55 #[.pointer (some ⟨w3.heap.size, 0, none⟩)] (fun j => T.getD (27 * m + j) false) (w3.alloc (.cells R 55)) ?_ (fun j W hj hB => cmTell_any w3.heap.size R _ HRQ.out j hj W ?_)).mono ?_
   ·intro args w; rfl
   ·rw [hB.block _ (by simp)]; exact heap_alloc_last w3 _
   rintro e w4 ⟨v, rfl, hv, hb⟩
   have HB4 := am (below_step (HB3.out.alloc (HB3.out.size) _) hb)
   have HV4 := am (Kd.R_lower (base' := w.heap.size) hv (by have := HB3.out.size; simp; omega))
   clear hv hb; go_wp2
   go_ret2
   exact ⟨_, rfl, HV4.out, HB4.out⟩
 ·obtain ⟨rfl, rfl⟩ : [] = r1 ∧ false = r2 := by have h := H.out; rw [if_neg h3] at h; simpa using h
  go_enter Try.func20, Try.ntmps20
  go_wp2_with fail
  refine (impl_cubeRoots.calls n p t _ HT.out).mono ?_
  rintro e w1 ⟨v0, rfl, hv, hb⟩
  obtain ⟨B1, d1, e1⟩ := Kd.R_slice hv
  subst e1
  have HB1 := am hb
  clear hv hb
  have hq : ((t.length : Int) != 3) = true := by simp; omega
  go_wp2
  go_ret2
  exact ⟨_, rfl, Kd.R_nil _ _ _ _ _, HB1.out⟩/-! ### laws_FnExactCubeMeeting: function 4 -/
mutual
def laws_FnExactCubeMeeting.j0 : Nat → Int → Int → List Int → Bool → List Int → Bool → Option (Bool)
 | 0, _, _, _, _, _, _ => none
 | k + 1, x0, x1, x5, x6, x7, x33 => if x33 = true then (some false) else ((laws_markIntS.f k x7 1).bind fun bt367 => ((laws_heldIntS.f k bt367.2 1).bind fun t369 => (if t369 < 0 then (some false) else (if t369 = bt367.1 then ((impl_CubeMeeting.f k x0 x1).bind fun bt370 => ((laws_eqIntS.f k bt370.1 x5).bind fun t374 => (if t374 = true then (laws_FnExactCubeMeeting.j1 k bt367.2 bt367.1 (bt370.2 != x6)) else (laws_FnExactCubeMeeting.j1 k bt367.2 bt367.1 true)))) else (some false)))))
def laws_FnExactCubeMeeting.j1 : Nat → List Int → Int → Bool → Option (Bool)
 | 0, _, _, _ => none
 | k + 1, x7, x9, x59 => if x59 = true then (some false) else ((laws_heldIntS.f k x7 1).bind fun t375 => (if t375 < 0 then (some false) else (if t375 = x9 then (some true) else (some false))))
end
def laws_FnExactCubeMeeting.f (k : Nat) (a0 : Int) (a1 : Int) : Option (Bool) := (spec_CubeMeeting.f k a0 a1).bind fun bt358 => ((impl_CubeMeeting.f k a0 a1).bind fun bt362 => ((laws_eqIntS.f k bt362.1 bt358.1).bind fun t366 => (if t366 = true then (laws_FnExactCubeMeeting.j0 k a0 a1 bt358.1 bt358.2 bt362.1 (bt362.2 != bt358.2)) else (laws_FnExactCubeMeeting.j0 k a0 a1 bt358.1 bt358.2 bt362.1 true))))
theorem laws_FnExactCubeMeeting.mono_l : ∀ k, (∀ y0 y1 y2 y3 y4 y5, LeO (laws_FnExactCubeMeeting.j0 k y0 y1 y2 y3 y4 y5) (laws_FnExactCubeMeeting.j0 (k + 1) y0 y1 y2 y3 y4 y5)) ∧ (∀ y0 y1 y2, LeO (laws_FnExactCubeMeeting.j1 k y0 y1 y2) (laws_FnExactCubeMeeting.j1 (k + 1) y0 y1 y2))
 | 0 => ⟨fun _ _ _ _ _ _ r h => by simp [laws_FnExactCubeMeeting.j0] at h, fun _ _ _ r h => by simp [laws_FnExactCubeMeeting.j1] at h⟩
 | k + 1 => by
  obtain ⟨ih0, ih1⟩ := laws_FnExactCubeMeeting.mono_l k
  refine ⟨?_, ?_⟩
  ·intro y0 y1 y2 y3 y4 y5
   unfold laws_FnExactCubeMeeting.j0
   repeat' first | (with_reducible first | apply ih0 | apply ih1 | apply impl_CubeMeeting.mono | apply laws_eqIntS.mono | apply laws_heldIntS.mono | apply laws_markIntS.mono | apply spec_CubeMeeting.mono | exact LeO.refl _ | exact LeO.none _ | refine LeO.ite ?_ ?_ | refine LeO.bind ?_ (fun _ => ?_)) | (first | apply ih0 | apply ih1 | apply impl_CubeMeeting.mono | apply laws_eqIntS.mono | apply laws_heldIntS.mono | apply laws_markIntS.mono | apply spec_CubeMeeting.mono | exact LeO.none _ | refine LeO.ite ?_ ?_ | refine LeO.bind ?_ (fun _ => ?_))
  ·intro y0 y1 y2
   unfold laws_FnExactCubeMeeting.j1
   repeat' first | (with_reducible first | apply ih0 | apply ih1 | apply impl_CubeMeeting.mono | apply laws_eqIntS.mono | apply laws_heldIntS.mono | apply laws_markIntS.mono | apply spec_CubeMeeting.mono | exact LeO.refl _ | exact LeO.none _ | refine LeO.ite ?_ ?_ | refine LeO.bind ?_ (fun _ => ?_)) | (first | apply ih0 | apply ih1 | apply impl_CubeMeeting.mono | apply laws_eqIntS.mono | apply laws_heldIntS.mono | apply laws_markIntS.mono | apply spec_CubeMeeting.mono | exact LeO.none _ | refine LeO.ite ?_ ?_ | refine LeO.bind ?_ (fun _ => ?_))
theorem laws_FnExactCubeMeeting.mono : ∀ a0 a1 k, LeO (laws_FnExactCubeMeeting.f k a0 a1) (laws_FnExactCubeMeeting.f (k + 1) a0 a1) := by
 intro a0 a1 k
 obtain ⟨ih0, ih1⟩ := laws_FnExactCubeMeeting.mono_l k
 unfold laws_FnExactCubeMeeting.f
 repeat' first | (with_reducible first | apply ih0 | apply ih1 | apply impl_CubeMeeting.mono | apply laws_eqIntS.mono | apply laws_heldIntS.mono | apply laws_markIntS.mono | apply spec_CubeMeeting.mono | exact LeO.refl _ | exact LeO.none _ | refine LeO.ite ?_ ?_ | refine LeO.bind ?_ (fun _ => ?_)) | (first | apply ih0 | apply ih1 | apply impl_CubeMeeting.mono | apply laws_eqIntS.mono | apply laws_heldIntS.mono | apply laws_markIntS.mono | apply spec_CubeMeeting.mono | exact LeO.none _ | refine LeO.ite ?_ ?_ | refine LeO.bind ?_ (fun _ => ?_))
set_option maxHeartbeats 8000000 in
set_option maxRecDepth 100000 in
theorem laws_FnExactCubeMeeting.calls (k : Nat) (a0 : Int) (a1 : Int) (r : Bool) (w : World) (hT : r = true) (h : laws_FnExactCubeMeeting.f k a0 a1 = some r) :
  Calls Try.prog 4 #[.int .i64 a0, .int .i64 a1] w fun e w' => e = .returned (.bool r) ∧ Below w.heap.size w w' := by
 have HT := am hT
 clear hT
 have HB := am (Below.refl w.heap.size w)
 have H : ((spec_CubeMeeting.f k a0 a1).bind fun bt358 => ((impl_CubeMeeting.f k a0 a1).bind fun bt362 => ((laws_eqIntS.f k bt362.1 bt358.1).bind fun t366 => (if t366 = true then (laws_FnExactCubeMeeting.j0 k a0 a1 bt358.1 bt358.2 bt362.1 (bt362.2 != bt358.2)) else (laws_FnExactCubeMeeting.j0 k a0 a1 bt358.1 bt358.2 bt362.1 true))))) = some r := h
 clear h; replace H := bs H
 obtain ⟨⟨t358, t359⟩, A3, H⟩ := H
 dsimp only at H
 replace H := bs H
 obtain ⟨⟨t362, t363⟩, A4, H⟩ := H
 dsimp only at H
 have HC5 := am H
 clear H
 go_enter Try.func4, Try.ntmps4
 go_upto_region 3 with (first | ((with_reducible refine gate_callee (f := 19) rfl ?_); refine gl 16 Try.func19 #[.int .i64 a0, .int .i64 a1] ?_; (with_reducible refine (spec_CubeMeeting.calls k a0 a1 t358 t359 _ A3.out).mono ?_); rintro e w6 ⟨v360, rfl, ho0, hb⟩; refine ⟨_, rfl, ?_⟩; have HO361 := am (Kd.R_lower ho0 (bz HB)); replace HB := bq HB hb; (try clear hb); (try clear ho0)) | ((with_reducible refine gate_callee (f := 20) rfl ?_); refine gl 22 Try.func20 #[.int .i64 a0, .int .i64 a1] ?_; (with_reducible refine (impl_CubeMeeting.calls k a0 a1 t362 t363 _ A4.out).mono ?_); rintro e w7 ⟨v364, rfl, ho0, hb⟩; refine ⟨_, rfl, ?_⟩; have HO365 := am (Kd.R_lower (Kd.R_new' ho0 (Kd.R_lt (wR HO361))) (bz HB)); replace HO361 := eR HO361 (Kd.R_base ho0) hb; replace HB := bq HB hb; (try clear hb); (try clear ho0)))
 (try simp only [Act.put, List.setIfInBounds_toArray, List.set_cons_zero, List.set_cons_succ])
 go_cut [33] (fun v33 wc => ∃ (kq : Nat) (x33_4 : Bool), v33 = .bool x33_4 ∧ Aside0 (laws_FnExactCubeMeeting.j0 kq a0 a1 t358 t359 t362 x33_4 = some r) ∧ Aside0 (kq ≤ k) ∧ Aside0 (Kd.R (Kd.int .i64) 3 wc w.heap.size (fun k_ => some k_ ≠ (v364 : Value).ownBlock) v360 t358) ∧ Aside0 (Kd.R (Kd.int .i64) 3 wc w.heap.size (fun k_ => some k_ ≠ (v360 : Value).ownBlock) v364 t362) ∧ Aside0 (Below w.heap.size w wc))
 case first =>
  have H := HC5.out
  clear HC5; replace H := bs H; obtain ⟨t366, A8, H⟩ := H
  by_cases c9 : t366 = true
  ·subst c9
   rw [if_pos rfl] at H
   have H' := am H; clear H
   obtain ⟨Ao10, co10, eo10⟩ := Kd.R_slice HO365.out
   subst eo10
   obtain ⟨Ao11, co11, eo11⟩ := Kd.R_slice HO361.out
   subst eo11
   go_wp2_with (first | ((with_reducible refine gate_callee (f := 16) rfl ?_); refine gl 27 Try.func16 #[.slice Ao10 t362.length co10, .slice Ao11 t358.length co11] ?_; (with_reducible refine (laws_eqIntS.calls k _ _ t362 _ _ t358 true _ ?_ ?_ ?_ ?_ A8.out).mono ?_); exact Kd.C_below (Kd.R_reads' HO365.out).2.2 gs; exact (Kd.R_reads' HO365.out).2.1; exact Kd.C_below (Kd.R_reads' HO361.out).2.2 gs; exact (Kd.R_reads' HO361.out).2.1; rintro e w' ⟨rfl, ⟨nd, rfl⟩⟩; refine ⟨_, rfl, ?_⟩))
   go_meet
   case rel => exact ⟨_, ((t363 != t359)), fr, H', ⟨by first | omega | exact Nat.le_refl _⟩, ⟨Kd.R_below (Kd.R_mono HO361.out (fun _ hk => hk.2)) gs⟩, ⟨Kd.R_below (Kd.R_mono HO365.out (fun _ hk => hk.2)) gs⟩, ⟨bw HB⟩⟩
  ·replace c9 := Bool.eq_false_iff.mpr c9
   subst c9
   rw [if_neg (show ¬ (false = true) by decide)] at H
   have H' := am H; clear H
   obtain ⟨Ao12, co12, eo12⟩ := Kd.R_slice HO365.out
   subst eo12
   obtain ⟨Ao13, co13, eo13⟩ := Kd.R_slice HO361.out
   subst eo13
   go_wp2_with (first | ((with_reducible refine gate_callee (f := 16) rfl ?_); refine gl 27 Try.func16 #[.slice Ao12 t362.length co12, .slice Ao13 t358.length co13] ?_; (with_reducible refine (laws_eqIntS.calls k _ _ t362 _ _ t358 false _ ?_ ?_ ?_ ?_ A8.out).mono ?_); exact Kd.C_below (Kd.R_reads' HO365.out).2.2 gs; exact (Kd.R_reads' HO365.out).2.1; exact Kd.C_below (Kd.R_reads' HO361.out).2.2 gs; exact (Kd.R_reads' HO361.out).2.1; rintro e w' ⟨rfl, ⟨nd, rfl⟩⟩; refine ⟨_, rfl, ?_⟩))
   go_meet
   case rel => exact ⟨_, (true), fr, H', ⟨by first | omega | exact Nat.le_refl _⟩, ⟨Kd.R_below (Kd.R_mono HO361.out (fun _ hk => hk.2)) gs⟩, ⟨Kd.R_below (Kd.R_mono HO365.out (fun _ hk => hk.2)) gs⟩, ⟨bw HB⟩⟩
 case rest =>
  clear HC5; try clear c1; try clear c2; try clear p2; try clear c4; try clear c9
  obtain ⟨kq, x33_4, rfl, HA, HJ4, HO_5, HO_7, HB⟩ := hcut
  cases kq with
  | zero => exact absurd HA.out (by simp [laws_FnExactCubeMeeting.j0])
  | succ kj4 =>
   have H := HA.out; clear HA
   simp only [laws_FnExactCubeMeeting.j0] at H
   by_cases c14 : x33_4 = true
   ·subst c14
    rw [if_pos rfl] at H
    exact absurd (H.trans (congrArg some HT.out)) (by simp)
   ·replace c14 := Bool.eq_false_iff.mpr c14
    subst c14
    rw [if_neg (show ¬ (false = true) by decide)] at H
    replace H := bs H
    obtain ⟨⟨t367, t368⟩, A15, H⟩ := H
    dsimp only at H
    replace H := bs H; obtain ⟨t369, A16, H⟩ := H
    by_cases c17 : t369 < 0
    ·rw [if_pos c17] at H
     have c17b0 := decide_eq_true c17; clear c17
     exact absurd (H.trans (congrArg some HT.out)) (by simp)
    ·rw [if_neg c17] at H
     have c17b0 := decide_eq_false c17; clear c17
     by_cases c18 : t369 = t367
     ·rw [if_pos c18] at H
      have c18b0 := beq_iff_eq.mpr c18; have c18b1 := bne_eq_false_iff_eq.mpr c18; clear c18; replace H := bs H
      obtain ⟨⟨t370, t371⟩, A19, H⟩ := H
      dsimp only at H
      have HC20 := am H
      clear H
      obtain ⟨Ao21, co21, eo21⟩ := Kd.R_slice HO_7.out
      subst eo21
      go_upto_region 14 with (first | ((with_reducible refine gate_callee (f := 17) rfl ?_); refine gl 36 Try.func17 #[.slice Ao21 t362.length co21, .int .i64 1] ?_; (with_reducible refine (laws_markIntS.calls kj4 (fun k_ => some k_ = (.slice Ao21 t362.length co21 : Value).ownBlock) (.slice Ao21 t362.length co21) t362 1 t367 t368 w _ ?_ ?_ A15.out).mono ?_); (· repeat (first | (with_reducible first | exact HB.out | apply below_alloc | apply pw_below_drewN | apply below_drew1) | exact HB.out)); exact Kd.R_tight rfl HO_7.out; rintro e w22 ⟨rfl, hy0, hb, hkp⟩; refine ⟨_, rfl, ?_⟩; replace HO_5 := am (Kd.R_mono (ok' := fun k_ => some k_ ≠ (.slice Ao21 t362.length co21 : Value).ownBlock) (Kd.R_keptB (HO_5.out) hkp (fun k_ hk_ hs_ => (hk_) hs_)) (fun k_ hk_ => hk_.1)); replace HO_7 := am (Kd.R_reok rfl hy0 (fun k_ e_ => HO_7.out.1 k_ e_)); replace HB := am (hb); (try clear hb); (try clear hkp); (try clear hy0)) | ((with_reducible refine gate_callee (f := 18) rfl ?_); refine gl 39 Try.func18 #[.slice Ao21 t368.length co21, .int .i64 1] ?_ (hargs := by (try simp only [List.map_toArray, List.map_cons, List.map_nil]); first | done | (rw [show t368.length = t362.length from (Kd.R_reads' HO_7.out).1.symm] <;> rfl) | rfl | (simp only [List.length_drop, List.length_take]; rfl)); (with_reducible refine (laws_heldIntS.calls kj4 _ _ t368 1 t369 _ ?_ ?_ A16.out).mono ?_); exact Kd.C_below (Kd.R_reads' HO_7.out).2.2 gs; (· rw [show t368.length = t362.length from (Kd.R_reads' HO_7.out).1.symm]; exact (Kd.R_reads' HO_7.out).2.1); rintro e w' ⟨rfl, ⟨nd, rfl⟩⟩; refine ⟨_, rfl, ?_⟩) | ((with_reducible refine gate_callee (f := 20) rfl ?_); refine gl 48 Try.func20 #[.int .i64 a0, .int .i64 a1] ?_; (with_reducible refine (impl_CubeMeeting.calls kj4 a0 a1 t370 t371 _ A19.out).mono ?_); rintro e w23 ⟨v372, rfl, ho0, hb⟩; refine ⟨_, rfl, ?_⟩; have HO373 := am (Kd.R_lower (Kd.R_new' (Kd.R_new' ho0 (Kd.R_lt (wR HO_5))) (Kd.R_lt (wR HO_7))) (bz HB)); replace HO_5 := eR HO_5 (Kd.R_base ho0) hb; replace HO_7 := eR HO_7 (Kd.R_base ho0) hb; replace HB := bq HB hb; (try clear hb); (try clear ho0)))
      (try simp only [Act.put, List.setIfInBounds_toArray, List.set_cons_zero, List.set_cons_succ])
      go_cut [59] (fun v59 wc => ∃ (kq : Nat) (x59_19 : Bool), v59 = .bool x59_19 ∧ Aside0 (laws_FnExactCubeMeeting.j1 kq t368 t367 x59_19 = some r) ∧ Aside0 (kq ≤ kj4) ∧ Aside0 (Kd.R (Kd.int .i64) 3 wc w.heap.size (fun _ => True) (.slice Ao21 t362.length co21) t368) ∧ Aside0 (Below w.heap.size w wc))
      case first =>
       have H := HC20.out
       clear HC20; replace H := bs H; obtain ⟨t374, A24, H⟩ := H
       by_cases c25 : t374 = true
       ·subst c25
        rw [if_pos rfl] at H
        have H' := am H; clear H
        obtain ⟨Ao26, co26, eo26⟩ := Kd.R_slice HO373.out
        subst eo26
        obtain ⟨Ao27, co27, eo27⟩ := Kd.R_slice HO_5.out
        subst eo27
        go_wp2_with (first | ((with_reducible refine gate_callee (f := 16) rfl ?_); refine gl 53 Try.func16 #[.slice Ao26 t370.length co26, .slice Ao27 t358.length co27] ?_; (with_reducible refine (laws_eqIntS.calls kj4 _ _ t370 _ _ t358 true _ ?_ ?_ ?_ ?_ A24.out).mono ?_); exact Kd.C_below (Kd.R_reads' HO373.out).2.2 gs; exact (Kd.R_reads' HO373.out).2.1; exact Kd.C_below (Kd.R_reads' HO_5.out).2.2 gs; exact (Kd.R_reads' HO_5.out).2.1; rintro e w' ⟨rfl, ⟨nd, rfl⟩⟩; refine ⟨_, rfl, ?_⟩))
        go_meet
        case rel => exact ⟨_, ((t371 != t359)), fr, H', ⟨by have := HJ4.out; first | omega | exact Nat.le_refl _⟩, ⟨Kd.R_below (Kd.R_mono HO_7.out (fun _ hk => trivial)) gs⟩, ⟨bw HB⟩⟩
       ·replace c25 := Bool.eq_false_iff.mpr c25
        subst c25
        rw [if_neg (show ¬ (false = true) by decide)] at H
        have H' := am H; clear H
        obtain ⟨Ao28, co28, eo28⟩ := Kd.R_slice HO373.out
        subst eo28
        obtain ⟨Ao29, co29, eo29⟩ := Kd.R_slice HO_5.out
        subst eo29
        go_wp2_with (first | ((with_reducible refine gate_callee (f := 16) rfl ?_); refine gl 53 Try.func16 #[.slice Ao28 t370.length co28, .slice Ao29 t358.length co29] ?_; (with_reducible refine (laws_eqIntS.calls kj4 _ _ t370 _ _ t358 false _ ?_ ?_ ?_ ?_ A24.out).mono ?_); exact Kd.C_below (Kd.R_reads' HO373.out).2.2 gs; exact (Kd.R_reads' HO373.out).2.1; exact Kd.C_below (Kd.R_reads' HO_5.out).2.2 gs; exact (Kd.R_reads' HO_5.out).2.1; rintro e w' ⟨rfl, ⟨nd, rfl⟩⟩; refine ⟨_, rfl, ?_⟩))
        go_meet
        case rel => exact ⟨_, (true), fr, H', ⟨by have := HJ4.out; first | omega | exact Nat.le_refl _⟩, ⟨Kd.R_below (Kd.R_mono HO_7.out (fun _ hk => trivial)) gs⟩, ⟨bw HB⟩⟩
      case rest =>
       clear HC20; try clear c1; try clear c2; try clear p2; try clear c4; try clear c9; try clear c14; try clear c16; try clear c17; try clear c17b0; try clear c18; try clear c18b0; try clear c18b1; try clear c19; try clear c20; try clear c25; try clear p2
       obtain ⟨kq, x59_19, rfl, HA, HJ19, HO_7, HB⟩ := hcut
       have hl7_19 := (Kd.R_reads' HO_7.out).1
       rw [hl7_19] at HO_7
       (try simp only [hl7_19])
       cases kq with
       | zero => exact absurd HA.out (by simp [laws_FnExactCubeMeeting.j1])
       | succ kj19 =>
        have H := HA.out; clear HA
        simp only [laws_FnExactCubeMeeting.j1] at H
        by_cases c30 : x59_19 = true
        ·subst c30
         rw [if_pos rfl] at H
         exact absurd (H.trans (congrArg some HT.out)) (by simp)
        ·replace c30 := Bool.eq_false_iff.mpr c30
         subst c30
         rw [if_neg (show ¬ (false = true) by decide)] at H
         replace H := bs H; obtain ⟨t375, A31, H⟩ := H
         by_cases c32 : t375 < 0
         ·rw [if_pos c32] at H
          have c32b0 := decide_eq_true c32; clear c32
          exact absurd (H.trans (congrArg some HT.out)) (by simp)
         ·rw [if_neg c32] at H
          have c32b0 := decide_eq_false c32; clear c32
          by_cases c33 : t375 = t367
          ·rw [if_pos c33] at H
           have c33b0 := beq_iff_eq.mpr c33; have c33b1 := bne_eq_false_iff_eq.mpr c33; clear c33; obtain rfl := Option.some.inj H
           go_wp2_with (first | ((with_reducible refine gate_callee (f := 18) rfl ?_); refine gl 62 Try.func18 #[.slice Ao21 t368.length co21, .int .i64 1] ?_; (with_reducible refine (laws_heldIntS.calls kj19 _ _ t368 1 t375 _ ?_ ?_ A31.out).mono ?_); exact Kd.C_below (Kd.R_reads' HO_7.out).2.2 gs; exact (Kd.R_reads' HO_7.out).2.1; rintro e w' ⟨rfl, ⟨nd, rfl⟩⟩; refine ⟨_, rfl, ?_⟩))
           go_ret
           exact ⟨fq, bw HB⟩
          ·rw [if_neg c33] at H
           have c33b0 := beq_eq_false_iff_ne.mpr c33; have c33b1 := bne_iff_ne.mpr c33
           exact absurd (H.trans (congrArg some HT.out)) (by simp)
     ·rw [if_neg c18] at H
      have c18b0 := beq_eq_false_iff_ne.mpr c18; have c18b1 := bne_iff_ne.mpr c18
      exact absurd (H.trans (congrArg some HT.out)) (by simp)
/-- THE ONE PURE STATEMENT of laws_FnExactCubeMeeting: yours. -/
def laws_FnExactCubeMeeting.Pure : Prop := ∀ (a0 : Int) (a1 : Int), (Lit.int .i64 a0).wf = true → (Lit.int .i64 a1).wf = true → ∃ k, laws_FnExactCubeMeeting.f k a0 a1 = some true
theorem laws_FnExactCubeMeeting.walk (P : laws_FnExactCubeMeeting.Pure) (a0 : Int) (a1 : Int) (w : World) (w0 : (Lit.int .i64 a0).wf = true) (w1 : (Lit.int .i64 a1).wf = true) :
  Calls Try.prog 4 #[.int .i64 a0, .int .i64 a1] w fun e w' => e = .returned (.bool true) ∧ Below w.heap.size w w' := by
 obtain ⟨k, h⟩ := P a0 a1 w0 w1
 refine (laws_FnExactCubeMeeting.calls k a0 a1 true w rfl h).mono ?_
 rintro e w' ⟨rfl, hd⟩
 exact ⟨rfl, hd⟩
end Go.Proofs.Ytmenehnfgenlpaa.PA
