-- Written by xprint.py, a program of this claim's own (over the kit's print.py)
import Derived.Test.YtmgbpmihbljngaaPAx5
namespace Go.Proofs.Ytmgbpmihbljngaa.PA
set_option maxHeartbeats 8000000
set_option maxRecDepth 100000
open Go.RowKit Go.Proofs.YtmgbpmihbljngaaW.PrintWords Go.Proofs.YtmgbpmihbljngaaW.PrintLast Go.Proofs.YtmgbpmihbljngaaW.PrintMore
attribute [local go_sem] j9 j8 Qf Qg js jr j6 j7
set_option linter.unusedVariables false
set_option linter.unusedSimpArgs false
def mpE (b : Nat) : Value := .map (some b)
@[reducible] def mpK : Kd Nat := Kd.scalar mpE (fun _ => rfl)
theorem qkc : (Try.prog.info? 107).map (fun i => (i.zero, i.size, i.bytes)) = some (some (.map none), 1, 8) := by kernel_rfl
def qa9 (i j : Nat) : Nat := (3 - i) * (4 - i) / 2 + (3 - i - j)
def exN : List (Nat × Nat) := [(3, 0), (2, 1), (2, 0), (1, 2), (1, 1), (1, 0), (0, 3), (0, 2), (0, 1), (0, 0)]
def exL : List S41 := [⟨3, 0, 0⟩, ⟨2, 1, 0⟩, ⟨2, 0, 1⟩, ⟨1, 2, 0⟩, ⟨1, 1, 1⟩, ⟨1, 0, 2⟩, ⟨0, 3, 0⟩, ⟨0, 2, 1⟩, ⟨0, 1, 2⟩, ⟨0, 0, 3⟩]
def cubN (a : List Int) (n i j : Nat) : Int := if i + j ≤ 3 ∧ qa9 i j < n then rd a (qa9 i j) else 0
theorem exL_at : ∀ i : Nat, i < 10 → (qy exL (i : Int)).f0 = (((exN.getD i (0, 0)).1 : Nat) : Int) ∧ (qy exL (i : Int)).f1 = (((exN.getD i (0, 0)).2 : Nat) : Int) ∧ (exN.getD i (0, 0)).1 + (exN.getD i (0, 0)).2 ≤ 3 ∧ qa9 (exN.getD i (0, 0)).1 (exN.getD i (0, 0)).2 = i := by decide
theorem qlj : ((List.range 4).all fun i => (List.range 4).all fun j => (List.range 10).all fun n => decide (3 < i + j) || (decide (qa9 i j = n) == (decide (i = (exN.getD n (0, 0)).1) && decide (j = (exN.getD n (0, 0)).2)))) = true := by decide
theorem qma (i : Nat) (hi : i < 4) (j : Nat) (hj : j < 4) (n : Nat) (hn : n < 10) (h : i + j ≤ 3) : qa9 i j = n ↔ (i = (exN.getD n (0, 0)).1 ∧ j = (exN.getD n (0, 0)).2) := by
 have e := List.all_eq_true.1 (List.all_eq_true.1 (List.all_eq_true.1 qlj i (List.mem_range.2 hi)) j (List.mem_range.2 hj)) n (List.mem_range.2 hn)
 rw [decide_eq_false (by omega), Bool.false_or, beq_iff_eq] at e
 have e2 : (decide (qa9 i j = n) = true) ↔ ((decide (i = (exN.getD n (0, 0)).1) && decide (j = (exN.getD n (0, 0)).2)) = true) := by rw [e]
 simpa using e2
theorem ql1 (a : List Int) {n i j : Nat} (hn : n < 10) (h : i + j ≤ 3) : (if i = (exN.getD n (0, 0)).1 ∧ j = (exN.getD n (0, 0)).2 then rd a n else cubN a n i j) = cubN a (n + 1) i j := by
 have e := qma i (by omega) j (by omega) n hn h
 unfold cubN
 by_cases h1 : i = (exN.getD n (0, 0)).1 ∧ j = (exN.getD n (0, 0)).2
 ·have := e.2 h1
  rw [if_pos h1, if_pos ⟨h, by omega⟩, this]
 ·have : qa9 i j ≠ n := fun x => h1 (e.1 x)
  rw [if_neg h1]
  by_cases h2 : qa9 i j < n
  ·rw [if_pos ⟨h, h2⟩, if_pos ⟨h, by omega⟩]
  ·rw [if_neg (by omega), if_neg (by omega)]
theorem qbj {w w1 : World} {b n d : Nat} {F : Nat → Nat → Int} {row : Option Nat} (h : Zy w b n d F) (hg : w.grownBy w1 row) (hr : ∀ k, row = some k → ∃ cells t, w.heap[k]? = some (.cells cells t (0, 0))) : Zy w1 b n d F := by
 obtain ⟨D, ho, h1, h2⟩ := h
 refine ⟨D, ho.kept hg (fun e => ?_), h1, h2⟩
 obtain ⟨cells, t, hc⟩ := hr b e.symm
 obtain ⟨es, clock, hb, _⟩ := ho
 rw [hb] at hc
 cases hc
theorem J8 {w w1 : World} {b n d : Nat} {F : Nat → Nat → Int} (h : Zy w b n d F) (hb : Below w.heap.size w w1) : Zy w1 b n d F := by
 obtain ⟨D, ⟨es, clock, h0, h3⟩, h1, h2⟩ := h
 exact ⟨D, ⟨es, clock, (hb.block b (Array.getElem?_eq_some_iff.1 h0).1).trans h0, h3⟩, h1, h2⟩
theorem qbd {w : World} {b n d : Nat} {F G : Nat → Nat → Int} (h : Zy w b n d F) (e : ∀ i j, i + j ≤ d → F i j = G i j) : Zy w b n d G := by
 obtain ⟨D, ho, h1, h2⟩ := h
 exact ⟨D, ho, h1, fun i j hij => by rw [h2 i j hij, e i j hij]⟩
theorem qnl {w : World} {b n d : Nat} {F : Nat → Nat → Int} (h : Zy w b n d F) : b < w.heap.size := h.choose_spec.1.lt
def J5 (w : World) (base n d : Nat) (bs : List Nat) (Fs : Nat → Nat → Nat → Int) : Prop := ∀ i, i < bs.length → base ≤ bs.getD i 0 ∧ Zy w (bs.getD i 0) n d (Fs i)
theorem Ql {w w1 : World} {base n d : Nat} {bs : List Nat} {Fs : Nat → Nat → Nat → Int} (h : J5 w base n d bs Fs) (hb : Below w.heap.size w w1) : J5 w1 base n d bs Fs := fun i hi => ⟨(h i hi).1, J8 (h i hi).2 hb⟩
theorem Jp {w w1 : World} {base n d : Nat} {bs : List Nat} {Fs : Nat → Nat → Nat → Int} {row : Option Nat} (h : J5 w base n d bs Fs) (hg : w.grownBy w1 row) (hr : ∀ k, row = some k → ∃ cells t, w.heap[k]? = some (.cells cells t (0, 0))) : J5 w1 base n d bs Fs := fun i hi => ⟨(h i hi).1, qbj (h i hi).2 hg hr⟩
theorem qeu {w : World} {base n d b : Nat} {bs : List Nat} {Fs : Nat → Nat → Nat → Int} (h : J5 w base n d bs Fs) (hb : base ≤ b) (hm : Zy w b n d (Fs bs.length)) : J5 w base n d (bs ++ [b]) Fs := by
 intro i hi
 rw [List.length_append, List.length_singleton] at hi
 by_cases e : i < bs.length
 ·rw [List.getD_eq_getElem?_getD, List.getElem?_append_left e, ← List.getD_eq_getElem?_getD]; exact h i e
 ·have : i = bs.length := by omega
  subst this
  rw [List.getD_eq_getElem?_getD, List.getElem?_append_right (Nat.le_refl _), Nat.sub_self]
  exact ⟨hb, hm⟩
theorem qjt {p : Int} (hp : 7 ≤ p) {d1 d2 : Nat} {F G : Nat → Nat → Int} (hF : qca p d1 F) (hG : qca p d2 G) : qca p (d1 + d2) (mulI p F G) := by
 intro i j
 refine ⟨⟨Int.emod_nonneg _ (by omega), Int.emod_lt_of_pos _ (by omega)⟩, fun h => ?_⟩
 unfold mulI
 rw [qc2 _ fun a ha => qc2 _ fun c hc => ?_, Int.zero_emod]
 by_cases h1 : d1 < a + c
 ·rw [(hF a c).2 h1, Int.zero_mul]
 ·rw [(hG (i - a) (j - c)).2 (by omega), Int.mul_zero]
theorem qjh {p : Int} (hp : 7 ≤ p) {a : List Int} (ha : ∀ x ∈ a, 0 ≤ x ∧ x < p) (n : Nat) : qca p 3 (cubN a n) := by
 intro i j
 unfold cubN
 refine ⟨?_, fun h => if_neg (by omega)⟩
 split
 ·unfold rd
  rw [List.getD_eq_getElem?_getD]
  rcases h : a[((qa9 i j : Nat) : Int).toNat]? with _ | x
  ·simp; omega
  ·exact ha x (List.mem_of_getElem? h)
 ·omega
theorem R_map {α : Type} {κ : Kd α} {e : Nat} {w w1 : World} {base : Nat} {ok : Nat → Prop} {v : Value} {xs : List α} {b n d : Nat} {F : Nat → Nat → Int} (h : Kd.R κ e w base ok v xs) (hm : Zy w b n d F) (hg : w.grownBy w1 (some b)) : Kd.R κ e w1 base ok v xs :=
 Kd.R_mono (Kd.R_grown (Kd.R_bound h) hg (fun k hk e => by
  obtain ⟨_, _, _, q, _, cells, hc⟩ := hk
  obtain ⟨D, ⟨es, clock, hb, _⟩, _⟩ := hm
  rw [Option.some.inj e, hb] at hc
  cases hc)) (fun k hk => hk.1)
theorem qmd {w w1 : World} {base n d b : Nat} {bs : List Nat} {Fs : Nat → Nat → Nat → Int} (h : J5 w base n d bs Fs) (hg : w.grownBy w1 (some b)) (hne : ∀ i, i < bs.length → bs.getD i 0 ≠ b) : J5 w1 base n d bs Fs := fun i hi => ⟨(h i hi).1, by
 obtain ⟨D, ho, h1, h2⟩ := (h i hi).2
 exact ⟨D, ho.kept hg (fun e => hne i hi (Option.some.inj e)), h1, h2⟩⟩
theorem qau {w : World} {b n d : Nat} {F : Nat → Nat → Int} (h : Zy w b n d F) : Zy w.drew b n d F := h
theorem qgr {w : World} {b n d : Nat} {F : Nat → Nat → Int} (h : Zy w b n d F) (hn : n < maxLen) {e f : Nat} (hef : e + f ≤ d) (hd : d ≤ 900) {v : Int} (hv : i64w v) :
  ∃ w', (Instr.mapUpdate 107 (.map (some b)) (.agg #[.int .i64 (e : Int), .int .i64 (f : Int)]) (.int .i64 v)).run Try.prog w = .ok () w' ∧ Zy w' b (n + 1) d (fun i j => if i = e ∧ j = f then v else F i j) ∧ w.grownBy w' (some b) := by
 obtain ⟨D, ho, h1, h2⟩ := h
 obtain ⟨w', hr, ho', hg⟩ := ho.update Jl Z7 hn (qfn (Jg (n := e) (by omega)) (Jg (n := f) (by omega))) (plainElem_int qa4 hv)
 have hp := qgh ho.isMap h1 h2 hef hd v _ rfl
 exact ⟨w', hr, ⟨_, ho', hp.1, hp.2⟩, hg⟩
theorem qj7 (w : World) (d : Nat) : Zy (w.alloc (.map #[] 0)) w.heap.size 0 d (fun _ _ => 0) := ⟨.map [], World.ownsMap_made _ _ _ _, fun a c _ _ h => (by simp [Go.Maps.has] at h), fun i j _ => rfl⟩
theorem qnd {l : List (List Int)} {i : Nat} (h : i < l.length) : l.getD i [] ∈ l := by rw [List.getD_eq_getElem?_getD, List.getElem?_eq_getElem h]; exact List.getElem_mem _
theorem so_wf {p : Int} (hp : 7 ≤ p ∧ p ≤ 31) {row : List Int} (h : ∀ x ∈ row, 0 ≤ x ∧ x < p) {i : Int} : i64w (rd row i) := by
 have : 0 ≤ rd row i ∧ rd row i ≤ 31 := by
  unfold rd
  rw [List.getD_eq_getElem?_getD]
  rcases e : row[i.toNat]? with _ | x
  ·simp
  ·have := h x (List.mem_of_getElem? e)
   simp; omega
 obtain ⟨n, hn⟩ := Int.eq_ofNat_of_zero_le this.1
 rw [hn]
 exact Jg (by omega)
def trN : List (Nat × Nat × Nat) := [(0, 0, 0), (0, 0, 1), (0, 0, 2), (0, 0, 3), (0, 1, 1), (0, 1, 2), (0, 1, 3), (0, 2, 2), (0, 2, 3), (0, 3, 3), (1, 1, 1), (1, 1, 2), (1, 1, 3), (1, 2, 2), (1, 2, 3), (1, 3, 3), (2, 2, 2), (2, 2, 3), (2, 3, 3), (3, 3, 3)]
def trL : List S41 := [⟨0, 0, 0⟩, ⟨0, 0, 1⟩, ⟨0, 0, 2⟩, ⟨0, 0, 3⟩, ⟨0, 1, 1⟩, ⟨0, 1, 2⟩, ⟨0, 1, 3⟩, ⟨0, 2, 2⟩, ⟨0, 2, 3⟩, ⟨0, 3, 3⟩, ⟨1, 1, 1⟩, ⟨1, 1, 2⟩, ⟨1, 1, 3⟩, ⟨1, 2, 2⟩, ⟨1, 2, 3⟩, ⟨1, 3, 3⟩, ⟨2, 2, 2⟩, ⟨2, 2, 3⟩, ⟨2, 3, 3⟩, ⟨3, 3, 3⟩]
theorem trL_at : ∀ i : Nat, i < 20 → (qy trL (i : Int)).f0 = (((trN.getD i (0, 0, 0)).1 : Nat) : Int) ∧ (qy trL (i : Int)).f1 = (((trN.getD i (0, 0, 0)).2.1 : Nat) : Int) ∧ (qy trL (i : Int)).f2 = (((trN.getD i (0, 0, 0)).2.2 : Nat) : Int) ∧ (trN.getD i (0, 0, 0)).1 < 4 ∧ (trN.getD i (0, 0, 0)).2.1 < 4 ∧ (trN.getD i (0, 0, 0)).2.2 < 4 := by decide
def cubB (l : List (List Int)) (q : Nat) : Nat → Nat → Int := cubN (l.getD q []) 10
def qba (p : Int) (l : List (List Int)) (i : Nat) : Nat → Nat → Int := mulI p (mulI p (cubB l (trN.getD i (0, 0, 0)).1) (cubB l (trN.getD i (0, 0, 0)).2.1)) (cubB l (trN.getD i (0, 0, 0)).2.2)
def q6.T17 : Bool × List (List Nat × List Nat) := (true, [([], []), ([], []), ([], []), ([2], [2]), ([1, 3], [1, 3]), ([4], [4]), ([], []), ([], []), ([7], [7]), ([6, 8], [6, 8]), ([9], [9]), ([], []), ([5, 10, 11], [5, 10, 11]), ([], []), ([], []), ([14], [14]), ([13, 15], [13, 15]), ([16], [16]), ([], []), ([12, 17, 18, 12], [12, 17, 18]), ([19], [19]), ([0, 20, 19], [0, 20]), ([21, 21, 0, 1, 2, 3, 4, 5, 6, 7, 8, 9, 10, 11, 12, 13, 14, 15, 16, 17, 18, 19, 20, 21], [0, 21])])
def q6.B17 : List Nat := [0, 0, 0, 4, 14, 30, 0, 0, 128, 448, 960, 0, 4094, 0, 0, 16384, 57344, 122880, 0, 524286, 1048574, 2097151, 4194303]
theorem q6.tab17 : rtab .any (Zu Try.f66 17) = q6.T17 := by kernel_rfl
theorem q6.bits17 : Qe q6.T17.2 q6.B17 = true := by kernel_rfl
theorem qci {p : Int} {l : List (List Int)} (hp : 7 ≤ p) (h4 : l.length = 4) (h : ∀ a ∈ l, a.length = 10 ∧ ∀ x ∈ a, 0 ≤ x ∧ x < p) {q : Nat} (hq : q < 4) : qca p 3 (cubB l q) := qjh hp (h _ (qnd (by omega))).2 10
theorem qoq {w : World} {base g n c : Nat} {e : Nat} {ok : Nat → Prop} {bs : List Nat} (h : Kd.R mpK e w base ok (.slice (some ⟨g, 0, none⟩) n c) bs) : Kd.R mpK e w base (fun k => k = g) (.slice (some ⟨g, 0, none⟩) n c) bs := ⟨fun k hk => by simpa [Value.ownBlock] using hk.symm, h.2⟩
theorem qco {α β : Type} {κ : Kd α} {κ' : Kd β} {e e' : Nat} {w w1 : World} {base base' : Nat} {ok ok' : Nat → Prop} {v v' : Value} {xs : List α} {ys : List β} (h : Kd.R κ e w base ok v xs) (h' : Kd.R κ' e' w base' ok' v' ys) (hq : ∀ q, q ∈ e :: κ.E → q ≠ e') (hg : w.grownBy w1 v'.ownBlock) : Kd.R κ e w1 base ok v xs :=
 Kd.R_mono (Kd.R_grown (Kd.R_bound h) hg (fun k hk he => by
  obtain ⟨_, _, _, q, hqq, cells, hc⟩ := hk
  obtain ⟨inner, ho⟩ := Kd.R_own h'
  obtain ⟨cells', hc'⟩ := Jc ho k he.symm
  rw [hc] at hc'
  injection hc' with hc'
  injection hc' with _ hc'
  exact hq q hqq hc')) (fun k hk => hk.1)
theorem qhn {w : World} {base g c : Nat} {e : Nat} {ok : Nat → Prop} {bs : List Nat} (h : Kd.R mpK e w base ok (.slice (some ⟨g, 0, none⟩) 4 c) bs) (h4 : bs.length = 4) {t : Nat} (ht : t < 4) : w.cell? ⟨g, t, none⟩ = some (.map (some (bs.getD t 0))) := by
 rw [← h4] at h
 have := (Kd.R_cell (d := 0) h (t : Int) (by omega) (by omega)).1
 rw [Int.toNat_natCast] at this
 rw [this, rdOf, Int.toNat_natCast]; rfl
theorem qly {w : World} {base g c : Nat} {e : Nat} {ok : Nat → Prop} {bs : List Nat} (h : Kd.R mpK e w base ok (.slice (some ⟨g, 0, none⟩) 20 c) bs) (h4 : bs.length = 20) {t : Nat} (ht : t < 20) : w.cell? ⟨g, t, none⟩ = some (.map (some (bs.getD t 0))) := by
 rw [← h4] at h
 have := (Kd.R_cell (d := 0) h (t : Int) (by omega) (by omega)).1
 rw [Int.toNat_natCast] at this
 rw [this, rdOf, Int.toNat_natCast]; rfl
theorem qbw {w w1 : World} (hb : Below w.heap.size w w1) {a : Addr} {v : Value} (k : w.cell? a = some v) : w1.cell? a = some v := (hb.cell (World.block_lt_of_cell? w _ k)).trans k
def rowB (p : Int) (l : List (List Int)) (i j : Nat) : List Int := (List.range 20).map fun c => qba p l c i j
def Jm (p : Int) (l : List (List Int)) : Nat → List (List Int)
 | 0 => []
 | x + 1 => Jm p l x ++ (List.range (10 - x)).map (rowB p l x)
theorem qdl (p : Int) (l : List (List Int)) : ∀ x, (Jm p l x).length ≤ 10 * x
 | 0 => Nat.le_refl _
 | x + 1 => by
  have := qdl p l x
  rw [Jm, List.length_append, List.length_map, List.length_range]
  omega
theorem so_len {p : Int} {l : List (List Int)} {x y : Nat} (hx : x ≤ 10) (hy : y ≤ 10) : ((Jm p l x ++ (List.range y).map (rowB p l x)).length + 1) * 24 ≤ 140737488355328 := by
 have := qdl p l x
 rw [List.length_append, List.length_map, List.length_range]
 omega
theorem qoa (p : Int) (l : List (List Int)) (i j : Nat) : ((List.range 20).map fun c => qba p l c i j) = rowB p l i j := rfl
theorem qft (p : Int) (l : List (List Int)) (i j : Nat) : (rowB p l i j).length = 20 := by rw [rowB, List.length_map, List.length_range]
theorem qhi {w : World} {b n d : Nat} {F : Nat → Nat → Int} (h : Zy w b n d F) {i j : Nat} (hij : i + j ≤ d) (hd : d ≤ 900) : (Instr.lookup 107 (.map (some b)) (.agg #[.int .i64 (i : Int), .int .i64 (j : Int)]) false).run Try.prog w = .ok (.int .i64 (F i j)) w := by
 obtain ⟨D, ho, h1, h2⟩ := h
 obtain ⟨c, hr, hat, _⟩ := ho.lookup_int Jl Z7 qa4 (qh6 _) (qfn (Jg (n := i) (by omega)) (Jg (n := j) (by omega)))
 rw [h2 i j hij] at hat
 cases hat
 exact hr
theorem qbl {α : Type} {κ : Kd α} {e : Nat} {w : World} {base : Nat} {ok : Nat → Prop} {v : Value} {xs : List α} (h : Kd.R κ e w base ok v xs) (k : Nat) (hk : v.ownBlock = some k) : ∃ cells t, w.heap[k]? = some (.cells cells t (0, 0)) := by
 obtain ⟨inner, ho⟩ := Kd.R_own h
 obtain ⟨cells, hc⟩ := Jc ho k hk
 exact ⟨cells, e, hc⟩
theorem qbr {i d n : Nat} (h : i + (d + 1) = n) : n - (((i + 1 : Nat) : Int)).toNat < n - ((i : Int)).toNat := by omega
def q6.T9 : Bool × List (List Nat × List Nat) := (true, [([], []), ([], []), ([1], [1]), ([], []), ([3], [3]), ([2, 4], [2, 4]), ([], []), ([], []), ([6, 7], [6, 7]), ([8], [8]), ([0, 5, 9, 0, 1, 2, 3, 4, 5, 6, 7, 8, 9], [0, 5, 9])])
def q6.B9 : List Nat := [0, 0, 2, 0, 8, 30, 0, 0, 192, 448, 1023]
theorem q6.tab9 : rtab .any (Zu Try.f66 9) = q6.T9 := by kernel_rfl
theorem q6.bits9 : Qe q6.T9.2 q6.B9 = true := by kernel_rfl
theorem q6.walk (k : Nat) (a0 : Int) (A1 : Option Addr) (c1 : Nat) (l1 : List (List Int)) (r : List Int) (w : World) (hr1 : Kd.C (Kd.slice 3 (Kd.int .i64)) w A1 l1.length l1) (hc1 : l1.length ≤ c1) (hp : 7 ≤ a0 ∧ a0 ≤ 31) (hl4 : l1.length = 4) (hrow : ∀ a ∈ l1, a.length = 10 ∧ ∀ x ∈ a, 0 ≤ x ∧ x < a0) (hex : q9.f k = some exL) (htr : ze.f k = some trL) (rs : List (List Int)) (hsol : qh.f k a0 (Jm a0 l1 10) 20 = some (r :: rs)) :
  Calls Try.prog 66 #[.int .i64 a0, .slice A1 l1.length c1] w fun e w' => ∃ v0_ : Value, e = .returned (v0_) ∧ Kd.R (Kd.int .i64) 3 w' w.heap.size (fun _ => True) v0_ r ∧ Below w.heap.size w w' := by
 have hmm := @run_makeMap Try.prog
 have hu0 := Try.underlying99
 have hu1 := Try.underlying105
 have hu2 := Try.underlying47
 have hu3 := Try.underlying23
 have hu4 := Try.underlying41
 have hu5 := Try.underlying108
 have HR1 := am hr1
 have HC1 := am hc1
 have HB := am (Below.refl w.heap.size w)
 have HEX := am hex
 have HTR := am htr
 have HSOL := am hsol
 have HL4 := am hl4
 have HP := am hp
 have HROW := am hrow
 clear hr1 hc1 hex hl4 hp hrow htr hsol
 go_enter Try.func66, Try.ntmps66
 go_wp2_with (first
  | ((with_reducible refine za (N := 20) rfl ?_); refine Kd.R_lit mpK _ 107 ?hg (N := 20) ?hd (xs := ([] : List Nat)) (inner := []) (ok := fun _ => True) (okp := fun _ => True) ?hr ?hp (fun _ hk => hk) trivial (Below.refl _ _) (Nat.le_refl _) (by simp) ?_; (case hd => rfl); (case hg => rfl); (case hr => first | (go_simp; done) | (go_simp; rfl)); (case hp => exact (Reps.none _ _)); intro v427 w1 ho2 hb hg_ hnew_)
  | go_in)
 have HO := am ho2
 replace HB := bq HB hb
 clear hb ho2 hg_ hnew_
 go_loopw [5, 23] (fun v5 v23 w' => ∃ (i d : Nat) (bs : List Nat), v23 = .int .i64 (i : Int) ∧ qb (i + d = l1.length) ∧ qb (bs.length = i) ∧ qb (Kd.R mpK 107 w' w.heap.size (fun _ => True) v5 bs) ∧ qb (J5 w' w.heap.size 10 3 bs (cubB l1)) ∧ qb (Below w.heap.size w w')) (fun _ v23 _ => l1.length - (intOf v23).toNat)
 case atStart => exact ⟨0, l1.length, [], rfl, ⟨by omega⟩, ⟨rfl⟩, ⟨HO.out⟩, ⟨fun i hi => absurd hi (by simp)⟩, ⟨bw HB⟩⟩
 case round =>
  clear HO HB
  obtain ⟨i, d, bs, rfl, HD, HLEN, HO, HPS, HB⟩ := hrel
  cases d with
  | zero =>
   have hlt : decide (i < l1.length) = false := decide_eq_false (by have := HD.out; omega)
   have hi4 : bs.length = 4 := by have := HLEN.out; have := HD.out; have := HL4.out; omega
   obtain ⟨g, cap, rfl, hgb, hgl, _⟩ := Kd.R_form HO.out (by omega)
   rw [hi4] at HO ⊢
   have HI4 := am hi4
   clear hi4 hgb hgl
   go_wp2_with (first
    | ((with_reducible refine za (N := 51) rfl ?_); refine Kd.R_lit mpK _ 107 ?hg (N := 51) ?hd (xs := ([] : List Nat)) (inner := []) (ok := fun _ => True) (okp := fun _ => True) ?hr ?hp (fun _ hk => hk) trivial (Below.refl _ _) (Nat.le_refl _) (by simp) ?_; (case hd => rfl); (case hg => rfl); (case hr => first | (go_simp; done) | (go_simp; rfl)); (case hp => exact (Reps.none _ _)); intro v428 w3 ho3 hb3 hg3 hnew3)
    | ((with_reducible refine qf (f := 104) rfl ?_); refine gl 52 Try.func104 #[] ?_; (with_reducible refine (ze.calls k trL _ HTR.out).mono ?_); rintro e w5 ⟨v386, rfl, ho0, hb⟩; refine ⟨_, rfl, ?_⟩; obtain ⟨Ae, ce, rfl, hcle, hCe⟩ := Kd.R_reads ho0; rw [show trL.length = 20 from rfl] at ho0 hcle hCe ⊢)
    | go_in)
   have hle0 : w.heap.size ≤ w3.heap.size := Nat.le_trans HB.out.size hb3.size
   have HB3 := bq HB hb3
   have hsep0 : ∀ q, v428.ownBlock = some q → q ≠ g := fun q hq => by
    obtain ⟨b, hb1, hb2⟩ := hnew3
    have : b = q := by rw [hb1] at hq; exact Option.some.inj hq
    have := Kd.R_lt HO.out g (by simp [Value.ownBlock])
    omega
   have HSEP := am hsep0
   have HOP := am (Kd.R_below (Kd.R_lower ho3 HB.out.size) hb)
   have HOC := am (qoq (Kd.R_below (Kd.R_below HO.out hb3) hb))
   have HPS3 := am (Ql (Ql HPS.out hb3) hb)
   have HTL := am (Kd.R_lower ho0 hle0)
   have HB5 := bq HB3 hb
   have HGW : qb (g < w5.heap.size) := am (Kd.R_lt HOC.out g (by simp [Value.ownBlock]))
   clear HO HPS HB HB3 ho3 hb3 hg3 hnew3 ho0 hb hcle hCe hle0 hsep0 hlt
   go_loopw [11, 54] (fun v11 v54 w' => ∃ (i d : Nat) (ps : List Nat), v54 = .int .i64 (i : Int) ∧ qb (i + d = 20) ∧ qb (ps.length = i) ∧ qb (Kd.R mpK 107 w' w.heap.size (fun _ => True) v11 ps) ∧ qb (∀ q, v11.ownBlock = some q → q ≠ g) ∧ qb (J5 w' w.heap.size 1000 9 ps (qba a0 l1)) ∧ qb (Kd.R mpK 107 w' w.heap.size (fun k => k = g) (.slice (some ⟨g, 0, none⟩) 4 cap) bs) ∧ qb (J5 w' w.heap.size 10 3 bs (cubB l1)) ∧ qb (Kd.R k41 41 w' w.heap.size (fun _ => True) (.slice Ae 20 ce) trL) ∧ qb (Below w.heap.size w w')) (fun _ v54 _ => 20 - (intOf v54).toNat)
   case atStart => exact ⟨0, 20, [], rfl, ⟨rfl⟩, ⟨rfl⟩, HOP, HSEP, ⟨fun i hi => absurd hi (by simp)⟩, HOC, HPS3, HTL, HB5⟩
   case round =>
    clear HOP HSEP HOC HPS3 HTL HB5
    obtain ⟨i, d, ps, rfl, HDJ, HLP, HOP, HSEP, HPP, HOC, HPS3, HTL, HB⟩ := hrel
    cases d with
    | zero =>
     have hlt2 : decide ((i : Int) < 20) = false := decide_eq_false (by have := HDJ.out; omega)
     have hi20 : ps.length = 20 := by have := HLP.out; have := HDJ.out; omega
     obtain ⟨gp, capp, rfl, _, _, _⟩ := Kd.R_form HOP.out (by omega)
     rw [hi20] at HOP ⊢
     have HI20 := am hi20
     clear hi20 HTL HOC HPS3 HSEP
     go_wp2_with (first
      | ((with_reducible refine za (N := 81) rfl ?_); refine Kd.R_lit (Kd.slice 3 (Kd.int .i64)) _ 23 ?hg (N := 81) ?hd (xs := ([] : List (List Int))) (inner := []) (ok := fun _ => True) (okp := fun _ => True) ?hr ?hp (fun _ hk => hk) trivial (Below.refl _ _) (Nat.le_refl _) (by simp) ?_; (case hd => rfl); (case hg => rfl); (case hr => first | (go_simp; done) | (go_simp; rfl)); (case hp => exact (Reps.none _ _)); intro v14 w4 ho4 hb4 hg4 hnew4)
      | go_in)
     have HOR := am (Kd.R_lower ho4 HB.out.size)
     have HOP4 := am (Kd.R_below HOP.out hb4)
     have HPP4 := am (Ql HPP.out hb4)
     replace HB := bq HB hb4
     clear HOP HPP ho4 hb4 hg4 hnew4 hlt2
     go_loopw [14, 82] (fun v14 v82 w' => ∃ (x d : Nat), v82 = .int .i64 (x : Int) ∧ qb (x + d = 10) ∧ qb (Kd.R (Kd.slice 3 (Kd.int .i64)) 23 w' w.heap.size (fun _ => True) v14 (Jm a0 l1 x)) ∧ qb (Kd.R mpK 107 w' w.heap.size (fun _ => True) (.slice (some ⟨gp, 0, none⟩) 20 capp) ps) ∧ qb (J5 w' w.heap.size 1000 9 ps (qba a0 l1)) ∧ qb (Below w.heap.size w w')) (fun _ v82 _ => 10 - (intOf v82).toNat)
     case atStart => exact ⟨0, 10, rfl, ⟨rfl⟩, HOR, HOP4, HPP4, HB⟩
     case round =>
      clear HOR HOP4 HPP4 HB
      obtain ⟨x, d, rfl, HX, HOR, HOP, HPP, HB⟩ := hrel
      cases d with
      | zero =>
       have hlt2 : decide ((x : Int) < 10) = false := decide_eq_false (by have := HX.out; omega)
       have hx10 : x = 10 := by have := HX.out; omega
       subst hx10
       obtain ⟨Ar, cr, rfl, hcr, hCr⟩ := Kd.R_reads HOR.out
       have HCR := am hcr
       have HCC := am hCr
       clear hcr hCr HOR HOP HPP
       obtain ⟨RX, hRX⟩ : ∃ q, q = Jm a0 l1 10 := ⟨_, rfl⟩
       rw [← hRX] at HCR HCC HSOL ⊢
       clear hRX
       go_wp2_with (first
        | ((with_reducible refine qf (f := 112) rfl ?_); refine gl 114 Try.func112 #[.int .i64 a0, .slice Ar RX.length cr, .int .i64 20] ?_; (with_reducible refine (qh.calls k a0 _ _ RX 20 (r :: rs) _ ?_ ?_ HSOL.out).mono ?_); exact HCC.out; exact HCR.out; rintro e w5 ⟨v386, rfl, ho0, hb⟩; refine ⟨_, rfl, ?_⟩; obtain ⟨gs, cs, rfl, _, _, _⟩ := Kd.R_form (Kd.S_R ho0) (by simp); obtain ⟨cc, _, hcm, hcells, _⟩ := Kd.R_elem (Kd.S_R ho0) ([] : List Int) 0 (by omega) (by simp); obtain ⟨vr, rfl, hvr⟩ := hcm; have x0 : w5.cell? ⟨gs, 0, none⟩ = some vr := hcells 0 _ rfl)
        | go_in)
       go_ret
       exact ⟨vr, rfl, Kd.R_mono (Kd.R_lower hvr HB.out.size) (fun _ _ => trivial), (bq HB hb).out⟩
      | succ d =>
       have hlt2 : decide ((x : Int) < 10) = true := decide_eq_true (by have := HX.out; omega)
       obtain ⟨m, hm⟩ : ∃ m : Nat, m = 10 - x := ⟨_, rfl⟩
       have hw0 : wrap64 (10 - (x : Int)) = (m : Int) := by have := HX.out; unfold wrap64; omega
       have HM := am hm
       clear hm; go_wp2
       go_loopw [14, 87] (fun v14 v87 w' => ∃ (y dy : Nat), v87 = .int .i64 (y : Int) ∧ qb (y + dy = m) ∧ qb (Kd.R (Kd.slice 3 (Kd.int .i64)) 23 w' w.heap.size (fun _ => True) v14 (Jm a0 l1 x ++ (List.range y).map (rowB a0 l1 x))) ∧ qb (Kd.R mpK 107 w' w.heap.size (fun _ => True) (.slice (some ⟨gp, 0, none⟩) 20 capp) ps) ∧ qb (J5 w' w.heap.size 1000 9 ps (qba a0 l1)) ∧ qb (Below w.heap.size w w')) (fun _ v87 _ => m - (intOf v87).toNat)
       case atStart => exact ⟨0, m, rfl, ⟨by omega⟩, ⟨by simpa using HOR.out⟩, HOP, HPP, HB⟩
       case round =>
        clear HOR HOP HPP HB
        obtain ⟨y, dy, rfl, HY, HOR, HOP, HPP, HB⟩ := hrel
        cases dy with
        | zero =>
         have hlt3 : decide (y < m) = false := decide_eq_false (by have := HY.out; omega)
         go_wp2
         have hw1 : wrap64 ((x : Int) + 1) = ((x + 1 : Nat) : Int) := by have := HX.out; unfold wrap64; omega
         have hy : y = 10 - x := by have := HY.out; have := HM.out; omega
         subst hy
         exact ⟨⟨x + 1, d, by rw [hw1], ⟨by have := HX.out; omega⟩, HOR, HOP, HPP, HB⟩, by rw [hw1]; exact qbr HX.out⟩
        | succ dy =>
         have hlt3 : decide (y < m) = true := decide_eq_true (by have := HY.out; omega)
         go_wp2_with (first
          | ((with_reducible refine za (N := 90) rfl ?_); refine Kd.R_lit (Kd.int .i64) _ 3 ?hg (N := 90) ?hd (xs := ([] : List Int)) (inner := []) (ok := fun _ => True) (okp := fun _ => True) ?hr ?hp (fun _ hk => hk) trivial (Below.refl _ _) (Nat.le_refl _) (by simp) ?_; (case hd => rfl); (case hg => rfl); (case hr => first | (go_simp; done) | (go_simp; rfl)); (case hp => exact (Reps.none _ _)); intro v17 w4 ho4 hb4 hg4 hnew4)
          | go_in)
         have HROW1 := am (Kd.R_lower ho4 HB.out.size)
         have HOR4 := am (Kd.R_elder' HOR.out (v := v17) (fun k hk => by obtain ⟨b, h1, h2⟩ := hnew4; rw [h1] at hk; have := Option.some.inj hk; omega) hb4)
         have HOP4 := am (Kd.R_below HOP.out hb4)
         have HPP4 := am (Ql HPP.out hb4)
         replace HB := bq HB hb4
         clear HOR HOP HPP ho4 hb4 hg4 hnew4 hlt3
         go_loopw [17, 93] (fun v17 v93 w' => ∃ (c dc : Nat), v93 = .int .i64 (c : Int) ∧ qb (c + dc = 20) ∧ qb (Kd.R (Kd.int .i64) 3 w' w.heap.size (fun _ => True) v17 ((List.range c).map fun c => qba a0 l1 c x y)) ∧ qb (Kd.R (Kd.slice 3 (Kd.int .i64)) 23 w' w.heap.size (fun k => True ∧ some k ≠ v17.ownBlock) u14 (Jm a0 l1 x ++ (List.range y).map (rowB a0 l1 x))) ∧ qb (Kd.R mpK 107 w' w.heap.size (fun _ => True) (.slice (some ⟨gp, 0, none⟩) 20 capp) ps) ∧ qb (J5 w' w.heap.size 1000 9 ps (qba a0 l1)) ∧ qb (Below w.heap.size w w')) (fun _ v93 _ => 20 - (intOf v93).toNat)
         case atStart => exact ⟨0, 20, rfl, ⟨rfl⟩, HROW1, HOR4, HOP4, HPP4, HB⟩
         case round =>
          clear HROW1 HOR4 HOP4 HPP4 HB
          obtain ⟨c, dc, rfl, HC, HR, HOR, HOP, HPP, HB⟩ := hrel
          cases dc with
          | zero =>
           have hlt4 : decide ((c : Int) < 20) = false := decide_eq_false (by have := HC.out; omega)
           have hc : c = 20 := by have := HC.out; omega
           subst hc
           rw [qoa] at HR
           obtain ⟨gr, capr, rfl, _, _, _⟩ := Kd.R_form HR.out (by rw [qft]; omega)
           rw [qft] at HR HOR ⊢
           go_wp2_with (first
            | ((with_reducible refine jh (b := .append) (xs := #[.tmp 106, .tmp 108]) rfl ?_); at_builtin; refine Kd.R_append (Kd.slice 3 (Kd.int .i64)) (w0 := w) w.heap.size rfl (.tmp 106) (.tmp 108) 47 23 (.slice none 0 0) 24 rfl hu2 Zb rfl (by decide) (by omega) u14 (Jm a0 l1 x ++ (List.range y).map (rowB a0 l1 x)) (rowB a0 l1 x y) [.slice (some ⟨gr, 0, none⟩) 20 capr] (fun _ => True) (fun k => some k = (Value.slice (some ⟨gr, 0, none⟩) 20 capr).ownBlock) rfl rfl ?aP (fun k hk => ⟨trivial, fun e => (HOR.out.1 k e.symm).2 hk⟩) ?aF ?aO ?aB ?aS ?aL ?_; (case aP => exact ⟨_, rfl, fun k hk => hk.symm, HR.out.2⟩); (case aB => exact HB.out); (case aF => exact (fun _ _ => trivial)); (case aO => exact Kd.R_mono HOR.out (fun _ _ => trivial)); (case aS => exact HB.out.size); (case aL => exact so_len (by have := HX.out; omega) (by have := HY.out; have := HM.out; omega)); intro v9 w9 ho9 hb9 hg9 hn9)
            | go_in)
           have hw1 : wrap64 ((y : Int) + 1) = ((y + 1 : Nat) : Int) := by have := HY.out; have := HM.out; unfold wrap64; omega
           exact ⟨⟨v9, _, _, _, _, ⟨y + 1, rfl, ⟨dy, ⟨by have := HY.out; omega⟩⟩, ⟨by rw [List.range_succ, List.map_append, ← List.append_assoc]; exact ho9⟩, ⟨qco HOP.out HOR.out (by decide) hg9⟩, ⟨Jp HPP.out hg9 fun k hk => qbl HOR.out k hk⟩⟩, rfl, rfl, rfl, rfl, by rw [hw1]⟩, by rw [hw1]; exact qbr HY.out⟩
          | succ dc =>
           have hlt4 : decide ((c : Int) < 20) = true := decide_eq_true (by have := HC.out; omega)
           have m0 := qly HOP.out HI20.out (t := c) (by have := HC.out; omega)
           have hlr := qhi (HPP.out c (by have := HC.out; have := HI20.out; omega)).2 (i := x) (j := y) (by have := HY.out; have := HM.out; omega) (by omega)
           have p0 : (0 ≤ (c : Int)) = True := eq_true (by omega)
           have q0 : ((c : Int) < 20) = True := eq_true (by have := HC.out; omega)
           generalize ps.getD c 0 = B0 at *
           generalize hV : qba a0 l1 c x y = V at *
           have HV := am hV
           clear hV
           go_wp2_with (first
            | ((with_reducible refine jh (b := .append) (xs := #[.tmp 97, .tmp 103]) rfl ?_); at_builtin; refine Kd.R_append (Kd.int .i64) (w0 := w) w.heap.size rfl (.tmp 97) (.tmp 103) 23 3 (.int .i64 0) 8 rfl hu3 Ju rfl (by decide) (by omega) u17 ((List.range c).map fun c => qba a0 l1 c x y) V [.int .i64 V] (fun _ => True) (fun _ => False) rfl rfl ?aP (fun _ hk => hk.elim) ?aF ?aO ?aB ?aS ?aL ?_; (case aP => rfl); (case aB => exact HB.out); (case aF => exact (fun _ _ => trivial)); (case aO => exact HR.out); (case aS => exact HB.out.size); (case aL => rw [List.length_map, List.length_range]; have := HC.out; omega); intro v9 w9 ho9 hb9 hg9 hn9)
            | go_in)
           have hw1 : wrap64 ((c : Int) + 1) = ((c + 1 : Nat) : Int) := by have := HC.out; unfold wrap64; omega
           exact ⟨⟨c + 1, dc, by rw [hw1], ⟨by have := HC.out; omega⟩, ⟨by rw [List.range_succ, List.map_append, List.map_singleton, HV.out]; exact ho9⟩, ⟨Kd.R_after HOR.out hg9 hn9⟩, ⟨qco HOP.out HR.out (by decide) hg9⟩, ⟨Jp HPP.out hg9 fun k hk => qbl HR.out k hk⟩, ⟨hb9⟩⟩, by rw [hw1]; exact qbr HC.out⟩
    | succ d =>
     have hlt2 : decide ((i : Int) < 20) = true := decide_eq_true (by have := HDJ.out; omega)
     obtain ⟨ae, e1, y0, y1, y2⟩ := qeo (Kd.R_reads' HTL.out).2.2 (i : Int) (by omega) (show (i : Int) < 20 by have := HDJ.out; omega)
     subst e1
     rw [Int.toNat_natCast] at y0 y1 y2
     obtain ⟨f0, f1, f2, g0, g1, g2⟩ := trL_at i (by have := HDJ.out; omega)
     rw [f0] at y0
     rw [f1] at y1
     rw [f2] at y2
     have HPD : qb (qba a0 l1 i = mulI a0 (mulI a0 (cubB l1 (trN.getD i (0, 0, 0)).1) (cubB l1 (trN.getD i (0, 0, 0)).2.1)) (cubB l1 (trN.getD i (0, 0, 0)).2.2)) := ⟨rfl⟩
     clear f0 f1 f2
     generalize (trN.getD i (0, 0, 0)).1 = T0 at *
     generalize (trN.getD i (0, 0, 0)).2.1 = T1 at *
     generalize (trN.getD i (0, 0, 0)).2.2 = T2 at *
     have p0 : (0 ≤ (i : Int)) = True := eq_true (by omega)
     have q0 : ((i : Int) < 20) = True := eq_true (by have := HDJ.out; omega)
     go_wp2
     have hbel := (Below.refl wr.heap.size wr).alloc (Nat.le_refl _) (Obj.cells #[Value.int IntKind.i64 ↑T0, Value.int IntKind.i64 ↑T1, Value.int IntKind.i64 ↑T2] 41)
     have HB5 := bq HB hbel
     have hkk := heap_alloc_last wr (Obj.cells #[Value.int IntKind.i64 ↑T0, Value.int IntKind.i64 ↑T1, Value.int IntKind.i64 ↑T2] 41)
     have k0 := cell_of_row _ wr.heap.size 0 _ _ _ hkk
     have k1 := cell_of_row _ wr.heap.size 1 _ _ _ hkk
     have k2 := cell_of_row _ wr.heap.size 2 _ _ _ hkk
     replace k0 : _ = some (Value.int .i64 (T0 : Int)) := k0
     replace k1 : _ = some (Value.int .i64 (T1 : Int)) := k1
     replace k2 : _ = some (Value.int .i64 (T2 : Int)) := k2
     have HOC5 := am (Kd.R_below HOC.out hbel)
     have HPS5 := am (Ql HPS3.out hbel)
     have HOP5 := am (Kd.R_below HOP.out hbel)
     have HPP5 := am (Ql HPP.out hbel)
     have HTL5 := am (Kd.R_below HTL.out hbel)
     have m0 := qhn HOC5.out HI4.out g0
     have m1 := qhn HOC5.out HI4.out g1
     have m2 := qhn HOC5.out HI4.out g2
     have HM0 := am (HPS5.out T0 (by have := HI4.out; omega)).2
     have HM1 := am (HPS5.out T1 (by have := HI4.out; omega)).2
     have HM2 := am (HPS5.out T2 (by have := HI4.out; omega)).2
     have HF0 := am (qci HP.out.1 HL4.out HROW.out g0)
     have HF1 := am (qci HP.out.1 HL4.out HROW.out g1)
     have HF2 := am (qci HP.out.1 HL4.out HROW.out g2)
     have t0 : (0 ≤ (T0 : Int)) = True := eq_true (by omega)
     have t1 : (0 ≤ (T1 : Int)) = True := eq_true (by omega)
     have t2 : (0 ≤ (T2 : Int)) = True := eq_true (by omega)
     have s0 : ((T0 : Int) < 4) = True := eq_true (by omega)
     have s1 : ((T1 : Int) < 4) = True := eq_true (by omega)
     have s2 : ((T2 : Int) < 4) = True := eq_true (by omega)
     generalize bs.getD T0 0 = B0 at *
     generalize bs.getD T1 0 = B1 at *
     generalize bs.getD T2 0 = B2 at *
     clear hkk hbel y0 y1 y2 HOC HPS3 HOP HPP HTL HB
     generalize (wr.alloc (Obj.cells #[Value.int IntKind.i64 ↑T0, Value.int IntKind.i64 ↑T1, Value.int IntKind.i64 ↑T2] 41)) = w5b at *
     refine st 23 (fun v => v.cell? ⟨wr.heap.size, 0, none⟩ = some (.int .i64 (T0 : Int)) ∧ v.cell? ⟨wr.heap.size, 1, none⟩ = some (.int .i64 (T1 : Int)) ∧ v.cell? ⟨wr.heap.size, 2, none⟩ = some (.int .i64 (T2 : Int)) ∧ v.cell? ⟨g, T0, none⟩ = some (.map (some B0)) ∧ v.cell? ⟨g, T1, none⟩ = some (.map (some B1)) ∧ v.cell? ⟨g, T2, none⟩ = some (.map (some B2))) [19, 20, 21, 22] q6.tab17 q6.bits17 ⟨k0, k1, k2, m0, m1, m2⟩ fun hHeld HT_ HW_ => ?_
     refine pz 0 58 HT_ ?_; refine pz 1 59 HT_ ?_; refine pz 2 60 HT_ ?_; refine tk 3 61 HT_ HW_ hHeld ?_; refine pz 4 62 HT_ ?_; refine tk 5 63 HT_ HW_ hHeld ?_; refine pz 6 64 HT_ ?_; refine pz 7 65 HT_ ?_; refine tk 8 66 HT_ HW_ hHeld ?_; refine pz 9 67 HT_ ?_; refine tk 10 68 HT_ HW_ hHeld ?_; refine pz 11 69 HT_ ?_
     refine pz 13 71 HT_ ?_; refine pz 14 72 HT_ ?_; refine tk 15 73 HT_ HW_ hHeld ?_; refine pz 16 74 HT_ ?_; refine tk 17 75 HT_ HW_ hHeld ?_; refine pz 18 76 HT_ ?_
     refine on 12 (some 70) HT_ fun K hK => ?_
     refine gs_ Try.func115 #[.map (some B0), .map (some B1), .int .i64 a0] ?_
     refine (Qx.calls a0 B0 10 3 (cubB l1 T0) B1 10 3 (cubB l1 T1) _ HP.out (qau HM0.out) HF0.out (qau HM1.out) HF1.out (by omega) (by omega) (by omega)).mono ?_
     rintro e w7 ⟨bq1, rfl, hbq, hm7, hb7⟩
     refine ⟨_, rfl, ?_⟩
     have HB7 : qb (Below w.heap.size w w7) := ⟨qz (qx HB5.out) hb7⟩
     refine hK.out _ _ ⟨qbw hb7 k0, qbw hb7 k1, qbw hb7 k2, qbw hb7 m0, qbw hb7 m1, qbw hb7 m2⟩ fun hHeld => nz ?_
     clear hK K
     refine la 19 (some 77) HT_ fun K hK => ?_
     refine gs_ Try.func115 #[.map (some bq1), .map (some B2), .int .i64 a0] ?_
     refine (Qx.calls a0 bq1 (10 * 10) (3 + 3) (mulI a0 (cubB l1 T0) (cubB l1 T1)) B2 10 3 (cubB l1 T2) _ HP.out hm7 (qjt HP.out.1 HF0.out HF1.out) (J8 (qau HM2.out) hb7) HF2.out (by omega) (by omega) (by omega)).mono ?_
     rintro e w8 ⟨bq2, rfl, hbq2, hm8, hb8⟩
     refine ⟨_, rfl, ?_⟩
     have HB8 : qb (Below w.heap.size w w8) := ⟨qz HB7.out hb8⟩
     have HPP8 := am (Ql (Ql (w := w5b.drew) HPP5.out hb7) hb8)
     have HPS8 := am (Ql (Ql (w := w5b.drew) HPS5.out hb7) hb8)
     have HOP8 := am (Kd.R_below (Kd.R_below (Kd.R_drew HOP5.out) hb7) hb8)
     have HOC8 := am (Kd.R_below (Kd.R_below (Kd.R_drew HOC5.out) hb7) hb8)
     have HTL8 := am (Kd.R_below (Kd.R_below (Kd.R_drew HTL5.out) hb7) hb8)
     have HM8 : qb (Zy w8 bq2 1000 9 (qba a0 l1 i)) := ⟨by rw [HPD.out]; exact hm8⟩
     have HQ : qb (w.heap.size ≤ bq2) := ⟨Nat.le_trans HB7.out.size hbq2⟩
     refine hK.out _ _ (nz ?_)
     clear hK K hm8 hm7 hb7 hb8 hbq hbq2 HB5 HB7 HPP5 HPS5 HOP5 HOC5 HTL5 HM0 HM1 HM2 HF0 HF1 HF2 k0 k1 k2 m0 m1 m2 hHeld
     refine la 20 (some 78) HT_ fun K hK => ?_
     refine qfo (w1 := ?_) (v := ?_) (by rfl) rfl ?_ ?_
     rotate_left 2
     ·go_simp
      constructor
      ·rfl
      ·rfl
     refine hK.out _ _ (nz ?_)
     clear hK K
     refine la 21 (some 79) HT_ fun K hK => ?_
     refine Kd.R_append_step mpK (w0 := w) w.heap.size (by rfl) (.tmp 58) (.tmp 78) 105 107 (.map none) 8 rfl hu1 qkc rfl (by decide) (by omega) u11 ps bq2 [.map (some bq2)] (fun _ => True) (fun _ => False) rfl rfl ?aP (fun _ hk => hk.elim) ?aF ?aO ?aB ?aS ?aL ?_
     (case aP => rfl)
     (case aB => exact HB8.out)
     (case aF => exact (fun _ _ => trivial))
     (case aO => exact HOP8.out)
     (case aS => exact HB8.out.size)
     (case aL => have := HLP.out; have := HDJ.out; omega)
     intro v9 w9 ho9 hb9 hg9 hn9
     refine hK.out _ _ (nz ?_)
     clear hK K; refine pz 22 11 HT_ ?_
     refine Q8 (Qj HT_.out (by kernel_rfl)) ?_
     try go_wp2
     have hw1 : wrap64 ((i : Int) + 1) = ((i + 1 : Nat) : Int) := by have := HDJ.out; unfold wrap64; omega
     have hty := fun k hk => qbl HOP8.out k hk
     have hgl := Kd.R_lt HOC8.out g (by simp [Value.ownBlock])
     exact ⟨⟨i + 1, d, ps ++ [bq2], by rw [hw1], ⟨by have := HDJ.out; omega⟩, ⟨by rw [List.length_append, HLP.out]; rfl⟩, ⟨ho9⟩, ⟨fun q hq => by
       rcases hn9 with h | ⟨b, h, hb⟩
       ·exact HSEP.out q (by rw [← h]; exact hq)
       ·rw [h] at hq; have := Option.some.inj hq; omega⟩,
      ⟨qeu (Jp HPP8.out hg9 hty) HQ.out (by rw [HLP.out]; exact qbj HM8.out hg9 hty)⟩, ⟨Kd.R_grown HOC8.out hg9 fun k hk he => HSEP.out k he.symm hk⟩, ⟨Jp HPS8.out hg9 hty⟩, ⟨qco HTL8.out HOP8.out (by decide) hg9⟩, ⟨hb9⟩⟩, by rw [hw1]; exact qbr HDJ.out⟩
  | succ d =>
   have hlt : decide (i < l1.length) = true := decide_eq_true (by have := HD.out; omega)
   obtain ⟨ad, cs, eA, _, hK, hcell⟩ := Kd.C_get HR1.out ([] : List Int) (i : Int) (by omega) (by have := HD.out; omega)
   obtain ⟨A2, c2, rfl, hle2, hC2⟩ := hK
   rw [Int.toNat_natCast] at hle2 hC2
   have x0 := wcl HB (hcell 0 _ rfl)
   have HC2 := am hC2
   have HLE2 := am hle2
   subst eA; clear hC2 hle2 hcell
   rw [Int.toNat_natCast, show i * (Kd.slice 3 (Kd.int .i64)).sz + 0 = i from Nat.mul_one i] at x0
   generalize hrow0 : l1.getD i [] = row at *
   have HROW0 := am hrow0
   have HR10 := am (HROW.out row (by rw [← hrow0]; exact qnd (by have := HD.out; omega)))
   clear hrow0
   have p0 : (0 ≤ (i : Int)) = True := eq_true (by omega)
   have q0 : (i < l1.length) = True := eq_true (by have := HD.out; omega)
   go_wp2_with (first
    | ((with_reducible refine qf (f := 114) rfl ?_); refine gl 28 Try.func114 #[] ?_; (with_reducible refine (q9.calls k exL _ HEX.out).mono ?_); rintro e w5 ⟨v386, rfl, ho0, hb⟩; refine ⟨_, rfl, ?_⟩; obtain ⟨Ae, ce, rfl, hcle, hCe⟩ := Kd.R_reads ho0; rw [show exL.length = 10 from rfl] at ho0 hcle hCe ⊢)
    | go_in)
   have hmap := J8 (qj7 wr 3) hb
   have hle0 : w.heap.size ≤ wr.heap.size := HB.out.size
   have HLT := am (fun j hj => qnl (HPS.out j hj).2)
   have HPS1 := am (Ql (Ql HPS.out ((Below.refl _ _).alloc (Nat.le_refl _) _)) hb)
   have HO1 := am (Kd.R_below (Kd.R_alloc HO.out _) hb)
   replace HB := bq HB hb
   have HCE := am (Kd.R_lower ho0 (Nat.le_trans hle0 (by simp)))
   have HCLE := am hcle
   have HMAP := am hmap
   clear hb ho0 hmap HPS HO hCe hcle x0 p0 q0
   obtain ⟨gc, hgc⟩ : ∃ g, wr.heap.size = g := ⟨_, rfl⟩
   rw [hgc] at HLT HMAP ⊢
   have HGC : qb (w.heap.size ≤ gc) := am (hgc ▸ hle0)
   clear hle0; clear hgc
   go_loopw [30] (fun v30 w' => ∃ (j dj : Nat), v30 = .int .i64 (j : Int) ∧ qb (j + dj = 10) ∧ qb (Zy w' gc j 3 (cubN row j)) ∧ qb (Kd.R mpK 107 w' w.heap.size (fun _ => True) u5 bs) ∧ qb (J5 w' w.heap.size 10 3 bs (cubB l1)) ∧ qb (Kd.R k41 41 w' w.heap.size (fun _ => True) (.slice Ae 10 ce) exL) ∧ qb (Below w.heap.size w w')) (fun v30 _ => 10 - (intOf v30).toNat)
   case atStart => exact ⟨0, 10, rfl, ⟨rfl⟩, ⟨qbd HMAP.out fun i j _ => by unfold cubN; rw [if_neg (by omega)]⟩, HO1, HPS1, HCE, HB⟩
   case round =>
    clear HMAP HO1 HPS1 HCE HB
    obtain ⟨j, dj, rfl, HDJ, HMAP, HO1, HPS1, HCE, HB⟩ := hrel
    cases dj with
    | zero =>
     have hlt2 : decide ((j : Int) < 10) = false := decide_eq_false (by have := HDJ.out; omega)
     go_wp2_with (first
      | ((with_reducible refine jh (b := .append) (xs := #[.tmp 46, .tmp 48]) rfl ?_); at_builtin; refine Kd.R_append mpK (w0 := w) w.heap.size rfl (.tmp 46) (.tmp 48) 105 107 (.map none) 8 rfl hu1 qkc rfl (by decide) (by omega) u5 bs gc [.map (some gc)] (fun _ => True) (fun _ => False) rfl rfl ?aP (fun _ hk => hk.elim) ?aF ?aO ?aB ?aS ?aL ?_; (case aP => rfl); (case aB => exact (bw HB)); (case aF => exact (fun _ _ => trivial)); (case aO => exact (wR HO1)); (case aS => exact (bz HB)); (case aL => have := HLEN.out; have := HD.out; have := HL4.out; omega); intro v9 w9 ho9 hb9 hg9 hn9)
      | go_in)
     have hw1 : wrap64 ((i : Int) + 1) = ((i + 1 : Nat) : Int) := by have := HD.out; have := HL4.out; unfold wrap64; omega
     have hj : j = 10 := by have := HDJ.out; omega
     subst hj
     have hsn := qeu (Jp HPS1.out hg9 fun k hk => qbl HO1.out k hk) HGC.out (qbd (qbj HMAP.out hg9 fun k hk => qbl HO1.out k hk) fun a c _ => by rw [HLEN.out, cubB, HROW0.out])
     exact ⟨⟨i + 1, d, bs ++ [gc], by rw [hw1], ⟨by have := HD.out; omega⟩, ⟨by rw [List.length_append, HLEN.out]; rfl⟩, ⟨ho9⟩, ⟨hsn⟩, ⟨hb9⟩⟩, by rw [hw1]; exact qbr HD.out⟩
    | succ dj =>
     have hlt2 : decide ((j : Int) < 10) = true := decide_eq_true (by have := HDJ.out; omega)
     obtain ⟨ae, e1, y0, y1, y2⟩ := qeo (Kd.R_reads' HCE.out).2.2 (j : Int) (by omega) (show (j : Int) < 10 by have := HDJ.out; omega)
     subst e1
     rw [Int.toNat_natCast] at y0 y1 y2
     obtain ⟨aa, e2, z0⟩ := Kd.at_int HC2.out (j : Int) (by omega) (by have := HR10.out.1; have := HDJ.out; omega)
     subst e2
     rw [Int.toNat_natCast] at z0
     replace z0 := wcl HB z0
     obtain ⟨f0, f1, f2, f3⟩ := exL_at j (by have := HDJ.out; omega)
     rw [f0] at y0
     rw [f1] at y1
     have HX := am (fun (i1 j1 : Nat) (h : i1 + j1 ≤ 3) => ql1 row (n := j) (by have := HDJ.out; omega) h)
     generalize (exN.getD j (0, 0)).1 = E0 at *
     generalize (exN.getD j (0, 0)).2 = E1 at *
     have p0 : (0 ≤ (j : Int)) = True := eq_true (by omega)
     have q0 : ((j : Int) < 10) = True := eq_true (by have := HDJ.out; omega)
     have q1 : (j < row.length) = True := eq_true (by have := HDJ.out; have := HR10.out.1; omega)
     go_wp2
     have HB5 := am ((HB.out).alloc (bz HB) (Obj.cells #[Value.int IntKind.i64 ↑E0, Value.int IntKind.i64 ↑E1, Value.int IntKind.i64 (qy exL ↑j).f2] 41))
     have hkk := heap_alloc_last wr (Obj.cells #[Value.int IntKind.i64 ↑E0, Value.int IntKind.i64 ↑E1, Value.int IntKind.i64 (qy exL ↑j).f2] 41)
     have k0 := cell_of_row _ wr.heap.size 0 _ _ _ hkk
     have k1 := cell_of_row _ wr.heap.size 1 _ _ _ hkk
     replace k0 : _ = some (Value.int .i64 (E0 : Int)) := k0
     replace k1 : _ = some (Value.int .i64 (E1 : Int)) := k1
     have k2 := wcl ⟨(Below.refl wr.heap.size wr).alloc (Nat.le_refl _) (Obj.cells #[Value.int IntKind.i64 ↑E0, Value.int IntKind.i64 ↑E1, Value.int IntKind.i64 (qy exL ↑j).f2] 41)⟩ z0
     have HM5 := am (J8 HMAP.out ((Below.refl wr.heap.size wr).alloc (Nat.le_refl _) (Obj.cells #[Value.int IntKind.i64 ↑E0, Value.int IntKind.i64 ↑E1, Value.int IntKind.i64 (qy exL ↑j).f2] 41)))
     have HO5 := am (Kd.R_alloc HO1.out (Obj.cells #[Value.int IntKind.i64 ↑E0, Value.int IntKind.i64 ↑E1, Value.int IntKind.i64 (qy exL ↑j).f2] 41))
     have HPS5 := am (Ql HPS1.out ((Below.refl wr.heap.size wr).alloc (Nat.le_refl _) (Obj.cells #[Value.int IntKind.i64 ↑E0, Value.int IntKind.i64 ↑E1, Value.int IntKind.i64 (qy exL ↑j).f2] 41)))
     have HCE5 := am (Kd.R_alloc HCE.out ((Obj.cells #[Value.int IntKind.i64 ↑E0, Value.int IntKind.i64 ↑E1, Value.int IntKind.i64 (qy exL ↑j).f2] 41)))
     clear hkk y0 y1 y2 z0 HCE HO1 HPS1 HMAP HB
     generalize (wr.alloc (Obj.cells #[Value.int IntKind.i64 ↑E0, Value.int IntKind.i64 ↑E1, Value.int IntKind.i64 (qy exL ↑j).f2] 41)) = w5b at *
     obtain ⟨w6, hrun6, hm6, hg6⟩ := qgr (qau HM5.out) (Nat.lt_of_lt_of_le (show j < 1000 by have := HDJ.out; omega) (by decide)) f2 (by omega) (v := rd row (j : Int)) (so_wf HP.out HR10.out.2)
     have HM6 := am hm6
     have HG6 := am hg6
     clear hm6 hg6
     refine st 11 (fun v => v.cell? ⟨wr.heap.size, 0, none⟩ = some (.int .i64 (E0 : Int)) ∧ v.cell? ⟨wr.heap.size, 1, none⟩ = some (.int .i64 (E1 : Int)) ∧ v.cell? (aa.add j) = some (.int .i64 (rd row (j : Int)))) [10] q6.tab9 q6.bits9 ⟨k0, k1, k2⟩ fun hHeld HT_ HW_ => ?_
     refine pz 0 35 HT_ ?_; refine pz 1 36 HT_ ?_; refine tk 2 37 HT_ HW_ hHeld ?_; refine pz 3 38 HT_ ?_; refine tk 4 39 HT_ HW_ hHeld ?_; refine pz 5 40 HT_ ?_; refine pz 6 41 HT_ ?_; refine pz 7 42 HT_ ?_; refine pz 8 43 HT_ ?_; refine tk 9 44 HT_ HW_ hHeld ?_
     refine la 10 none HT_ fun K hK => ?_
     refine qb6 (w1 := w6) (by rfl) rfl (by go_simp) ?_
     refine hK.out _ _ ?_
     clear hK K
     refine Q8 (Qj HT_.out (by kernel_rfl)) ?_
     try go_wp2
     have hw1 : wrap64 ((j : Int) + 1) = ((j + 1 : Nat) : Int) := by have := HDJ.out; unfold wrap64; omega
     go_roundw
     case measure => rw [hw1]; exact qbr HDJ.out
     case rel => exact ⟨j + 1, dj, by rw [hw1], ⟨by have := HDJ.out; omega⟩, ⟨qbd HM6.out fun a c hac => HX.out a c hac⟩, ⟨R_map (w := w5b.drew) (Kd.R_drew HO5.out) HM5.out HG6.out⟩, ⟨qmd (w := w5b.drew) HPS5.out HG6.out fun t ht => Nat.ne_of_lt (HLT.out t ht)⟩, ⟨R_map (w := w5b.drew) (Kd.R_drew HCE5.out) HM5.out HG6.out⟩, ⟨(qx HB5.out).grown HG6.out HB5.out.size (fun j hj => by cases hj; exact HGC.out)⟩⟩
def q6.ok (p : Int) (l : List (List Int)) : Bool := decide (7 ≤ p ∧ p ≤ 31 ∧ l.length = 4) && l.all fun a => decide (a.length = 10) && a.all fun x => decide (0 ≤ x ∧ x < p)
def s3s (l : List S41) : List (Int × Int × Int) := l.map fun e => (e.f0, e.f1, e.f2)
theorem qg7 : ∀ {a b : List S41}, s3s a = s3s b → a = b
 | [], [], _ => rfl
 | [], _ :: _, h => by simp [s3s] at h
 | _ :: _, [], h => by simp [s3s] at h
 | ⟨x, y, z⟩ :: a, ⟨x', y', z'⟩ :: b, h => by
  simp only [s3s, List.map_cons, List.cons.injEq, Prod.mk.injEq] at h
  obtain ⟨⟨rfl, rfl, rfl⟩, h⟩ := h
  rw [qg7 (a := a) (b := b) h]
def q6.f (k : Nat) (p : Int) (l : List (List Int)) : Option (List Int) := (q9.f k).bind fun ex => (ze.f k).bind fun tr => if q6.ok p l = true ∧ s3s ex = s3s exL ∧ s3s tr = s3s trL then (qh.f k p (Jm p l 10) 20).bind fun s => s.head? else none
theorem q6.mono : ∀ a0 a1 k, LeO (q6.f k a0 a1) (q6.f (k + 1) a0 a1) := by
 intro a0 a1 k
 unfold q6.f
 exact LeO.bind (q9.mono k) fun _ => LeO.bind (ze.mono k) fun _ => LeO.ite (LeO.bind (qh.mono _ _ _ _) fun _ => LeO.refl _) (LeO.refl _)
theorem q6.calls (k : Nat) (a0 : Int) (A1 : Option Addr) (c1 : Nat) (l1 : List (List Int)) (r : List Int) (w : World) (hr1 : Kd.C (Kd.slice 3 (Kd.int .i64)) w A1 l1.length l1) (hc1 : l1.length ≤ c1) (h : q6.f k a0 l1 = some r) :
  Calls Try.prog 66 #[.int .i64 a0, .slice A1 l1.length c1] w fun e w' => ∃ v0_ : Value, e = .returned (v0_) ∧ Kd.R (Kd.int .i64) 3 w' w.heap.size (fun _ => True) v0_ r ∧ Below w.heap.size w w' := by
 unfold q6.f at h
 obtain ⟨ex, hex, h2⟩ := Option.bind_eq_some_iff.1 h
 clear h
 obtain ⟨tr, htr, h⟩ := Option.bind_eq_some_iff.1 h2
 clear h2
 by_cases hc : q6.ok a0 l1 = true ∧ s3s ex = s3s exL ∧ s3s tr = s3s trL
 rotate_left
 ·rw [if_neg hc] at h; cases h
 rw [if_pos hc] at h
 obtain ⟨hok, e1, e2⟩ := hc
 have e1 := qg7 e1
 have e2 := qg7 e2
 subst e1; subst e2
 obtain ⟨s, hs, hh⟩ := Option.bind_eq_some_iff.1 h
 clear h
 cases s with
 | nil => cases hh
 | cons q rs =>
  have hq : q = r := Option.some.inj hh
  subst hq
  unfold q6.ok at hok
  rw [Bool.and_eq_true, decide_eq_true_iff, List.all_eq_true] at hok
  refine q6.walk k a0 A1 c1 l1 _ w hr1 hc1 ⟨hok.1.1, hok.1.2.1⟩ hok.1.2.2 (fun a ha => ?_) hex htr rs hs
  have := hok.2 a ha
  rw [Bool.and_eq_true, decide_eq_true_iff, List.all_eq_true] at this
  exact ⟨this.1, fun x hx => by simpa using this.2 x hx⟩
def z7.l0 : Nat → Int → Int → Int → Int → Option (Int)
 | 0, _, _, _, _ => none
 | k + 1, x0, x5, x6, x7 => if x7 < x6 then (z7.l0 k x0 (wrap64 (x5 * x0)) x6 (wrap64 (x7 + 1))) else (some x5)
def z7.f (k : Nat) (a0 : Int) (a1 : Int) : Option (Int) := z7.l0 k a0 1 a1 0
theorem z7.mono_l : ∀ k, (∀ y0 y1 y2 y3, LeO (z7.l0 k y0 y1 y2 y3) (z7.l0 (k + 1) y0 y1 y2 y3))
 | 0 => fun _ _ _ _ r h => by simp [z7.l0] at h
 | k + 1 => by
  have ih0 := z7.mono_l k
  ·intro y0 y1 y2 y3
   unfold z7.l0
   repeat' first | (with_reducible first | apply ih0 | exact LeO.refl _ | exact LeO.none _ | refine LeO.ite ?_ ?_ | refine LeO.bind ?_ (fun _ => ?_)) | (first | apply ih0 | exact LeO.none _ | refine LeO.ite ?_ ?_ | refine LeO.bind ?_ (fun _ => ?_))
theorem z7.mono : ∀ a0 a1 k, LeO (z7.f k a0 a1) (z7.f (k + 1) a0 a1) := by
 intro a0 a1 k
 have ih0 := z7.mono_l k
 unfold z7.f
 repeat' first | (with_reducible first | apply ih0 | exact LeO.refl _ | exact LeO.none _ | refine LeO.ite ?_ ?_ | refine LeO.bind ?_ (fun _ => ?_)) | (first | apply ih0 | exact LeO.none _ | refine LeO.ite ?_ ?_ | refine LeO.bind ?_ (fun _ => ?_))
theorem z7.calls (k : Nat) (a0 : Int) (a1 : Int) (r : Int) (w : World) (h : z7.f k a0 a1 = some r) :
  Calls Try.prog 102 #[.int .i64 a0, .int .i64 a1] w fun e w' => e = .returned (.int .i64 r) ∧ Drawn0 w w' := by
 have H : (z7.l0 k a0 1 a1 0) = some r := h
 clear h; have H' := am H; clear H
 go_enter Try.func102, Try.ntmps102
 go_wp2
 go_loopg [5, 7] k (fun kq v5 v7 w' => ∃ (x5_1 : Int) (x7_1 : Int), v5 = .int .i64 x5_1 ∧ v7 = .int .i64 x7_1 ∧ qb (z7.l0 kq a0 x5_1 a1 x7_1 = some r) ∧ qb (kq ≤ k) ∧ Drawn0 w w')
 case atStart => exact ⟨(1), (0), fr, fr, H', ⟨Nat.le_refl _⟩, df⟩
 case round =>
  clear H'; try clear c1; try clear p2
  obtain ⟨x5_1, x7_1, rfl, rfl, HA, HK1, ⟨m1, rfl⟩⟩ := hrel
  cases gk with
  | zero => exact absurd HA.out (by simp [z7.l0])
  | succ k1 =>
   have H := HA.out; clear HA
   simp only [z7.l0] at H
   by_cases c3 : x7_1 < a1
   ·rw [if_pos c3] at H
    have c3b0 := decide_eq_true c3; clear c3; have H' := am H; clear H; go_wp2
    go_roundg k1
    case measure => have := HK1.out; omega
    case rel => exact ⟨(wrap64 (x5_1 * a0)), (wrap64 (x7_1 + 1)), fr, fr, H', ⟨by have := HK1.out; omega⟩, df⟩
   ·rw [if_neg c3] at H
    have c3b0 := decide_eq_false c3; clear c3; obtain rfl := Option.some.inj H; go_wp2; go_ret
    exact ⟨fr, df⟩
end Go.Proofs.Ytmgbpmihbljngaa.PA
