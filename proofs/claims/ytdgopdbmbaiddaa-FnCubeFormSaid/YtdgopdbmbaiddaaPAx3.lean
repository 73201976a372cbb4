-- Written by xprint.py, a program of this claim's own (over the kit's print.py)
import Derived.Test.YtdgopdbmbaiddaaPAx0
import Derived.Test.YtdgopdbmbaiddaaPAx2
import Derived.Test.YtdgopdbmbaiddaaPAx7
import Derived.Deep.Cut
namespace Go.Proofs.Ytdgopdbmbaiddaa.PA
open Go.RowKit Go.Proofs.YtdgopdbmbaiddaaW.PrintWords Go.Proofs.YtdgopdbmbaiddaaW.PrintLast Go.Proofs.YtdgopdbmbaiddaaW.PrintMore
attribute [local go_sem] max2_int min2_int max_two min_two max_three min_three max_four min_four   -- for this text's walks alone
set_option linter.unusedVariables false
set_option linter.unusedSimpArgs false

/-! ### impl_eachPlace: function 50 (by hand) -/
/-- a place of space by its first number's place and its code -/
def placeRow (p : Int) (first : Nat) (code : Int) : List Int :=
  match first with
  | 0 => [1, code / p / p % p, code / p % p, code % p]
  | 1 => [0, 1, code / p % p, code % p]
  | 2 => [0, 0, 1, code % p]
  | _ => [0, 0, 0, 1]
def placeMany (p : Nat) (first : Nat) : Nat := p ^ (3 - first)
/-- the places from the row of first, code on -/
def rowFrom (p : Nat) (first : Nat) (code : Nat) : List (List Int) := (List.range' code (placeMany p first - code)).map fun (c : Nat) => placeRow p first (c : Int)
def placesFrom (p : Nat) : Nat → List (List Int)
  | 0 => []
  | n + 1 => rowFrom p (3 - n) 0 ++ placesFrom p n
/-- all places, in the program's order -/
def places (p : Nat) : List (List Int) := placesFrom p 4

/-- a state that is turned by each place, till it says no -/
def runs {σ : Type} (step : σ → List Int → σ × Bool) : σ → List (List Int) → σ
  | s, [] => s
  | s, a :: rest => if (step s a).2 then runs step (step s a).1 rest else (step s a).1

theorem C_of_block {w : World} {b t : Nat} {xs : List Int} (h : w.heap[b]? = some (.cells (xs.map (Value.int .i64)).toArray t (0, 0))) (hl : xs.length ≤ 9223372036854775807) : Kd.C (Kd.int .i64) w (some ⟨b, 0, none⟩) xs.length xs := by
  refine Kd.C_of_reads (d := (0 : Int)) ⟨rfl, hl, fun hn => ⟨_, rfl, fun i hi => ?_⟩⟩
  have h2 := blk_cell h i
  have h3 : (⟨b, 0, none⟩ : Addr).add i = ⟨b, i, none⟩ := by
    unfold Addr.add
    split <;> simp_all
  rw [h3, h2]
  simp [List.getElem?_eq_getElem hi, List.getD_eq_getElem?_getD]

theorem power_eq (p : Nat) (h : p ≤ 31) (n : Nat) (hn : n ≤ 3) : impl_power.f 6 (p : Int) ((3 - n : Nat) : Int) = some ((placeMany p n : Nat) : Int) ∧ placeMany p n ≤ 29791 := by
  have hh : ∀ q : Fin 32, ∀ m : Fin 4, impl_power.f 6 (q.val : Int) ((3 - m.val : Nat) : Int) = some ((placeMany q.val m.val : Nat) : Int) ∧ placeMany q.val m.val ≤ 29791 := by decide +kernel
  exact hh ⟨p, by omega⟩ ⟨n, by omega⟩

theorem digit_eq (p c : Nat) (h7 : 7 ≤ p) (hc : c ≤ 29791) : wrap64 ((c : Int) / (p : Int)) = (c : Int) / (p : Int) ∧ wrap64 ((((c : Int) / (p : Int))).tdiv (p : Int)) = (c : Int) / (p : Int) / (p : Int) := by
  have h1 : (0 : Int) ≤ (c : Int) / (p : Int) := Int.ediv_nonneg (by omega) (by omega)
  have h2 : (c : Int) / (p : Int) ≤ c := Int.ediv_le_self _ (by omega)
  have h3 : (0 : Int) ≤ (c : Int) / (p : Int) / (p : Int) := Int.ediv_nonneg h1 (by omega)
  have h4 : (c : Int) / (p : Int) / (p : Int) ≤ (c : Int) / (p : Int) := Int.ediv_le_self _ h1
  rw [Int.tdiv_eq_ediv_of_nonneg h1]
  unfold wrap64
  omega
theorem digits_eq (p c : Nat) (h7 : 7 ≤ p) (hc : c ≤ 29791) : (wrap64 ((wrap64 ((c : Int) / (p : Int))).tdiv (p : Int))).tmod (p : Int) = (c : Int) / (p : Int) / (p : Int) % (p : Int) ∧ (wrap64 ((c : Int) / (p : Int))).tmod (p : Int) = (c : Int) / (p : Int) % (p : Int) := by
  obtain ⟨h1, h2⟩ := digit_eq p c h7 hc
  have h3 : (0 : Int) ≤ (c : Int) / (p : Int) := Int.ediv_nonneg (by omega) (by omega)
  rw [h1, h2, Int.tmod_eq_emod_of_nonneg h3, Int.tmod_eq_emod_of_nonneg (Int.ediv_nonneg h3 (by omega))]
  exact ⟨rfl, rfl⟩
theorem rowFrom_step {σ : Type} (step : σ → List Int → σ × Bool) (p n c : Nat) (s : σ) (r : List (List Int)) (h : c < placeMany p n) :
    rowFrom p n c = placeRow p n c :: rowFrom p n (c + 1) := by
  unfold rowFrom
  rw [show placeMany p n - c = (placeMany p n - (c + 1)) + 1 from by omega, List.range'_succ, List.map_cons]
theorem rowFrom_end (p n : Nat) : rowFrom p n (placeMany p n) = [] := by simp [rowFrom]

set_option maxHeartbeats 4000000 in
theorem eachPlace_any (g : Nat) (lb : Array Value) (σ : Type) (Inv : σ → World → Prop) (step : σ → List Int → σ × Bool) (p : Nat) (s0 : σ) (w : World) (h7 : 7 ≤ p) (h31 : p ≤ 31)
    (he : ∀ args w, (callFunc g args).run Try.prog w = .ok (.enter g args) w)
    (hI0 : Inv s0 w)
    (hmove : ∀ s W W', Inv s W → Below w.heap.size W W' → Inv s W')
    (hq : ∀ s a A c W, Inv s W → w.heap.size ≤ W.heap.size → a.length = 4 → Kd.C (Kd.int .i64) W A a.length a → a.length ≤ c → Calls Try.prog g (#[.slice A 4 c] ++ lb) W fun e w' => e = .returned (.bool (step s a).2) ∧ Inv (step s a).1 w' ∧ W.heap.size ≤ w'.heap.size) :
    Calls Try.prog 50 #[.int .i64 p, .func (.func g) #[] lb] w fun e w' => e = .returned (.tuple #[]) ∧ Inv (runs step s0 (places p)) w' := by
  have HM := Lib.hid hmove
  have HQ := Lib.hid hq
  clear hmove hq
  have hmk : ∀ (w : World), (Instr.makeSlice 22 (.int .i64 4) (.int .i64 4)).run Try.prog w = .ok (.slice (some ⟨w.heap.size, 0, none⟩) 4 4) (w.alloc (.cells #[.int .i64 0, .int .i64 0, .int .i64 0, .int .i64 0] 3)) := fun _ => by kernel_rfl
  go_enter Try.func50, Try.ntmps50
  go_wp2
  go_loopw [10] (fun i w' => ∃ n : Int, 0 ≤ n ∧ n ≤ 4 ∧ i = .int .i64 n ∧ ∃ s, Inv s w' ∧ w.heap.size ≤ w'.heap.size ∧ runs step s0 (places p) = runs step s (placesFrom p (4 - n.toNat))) (fun i _ => 4 - (intOf i).toNat)
  case atStart => exact ⟨0, by omega, by omega, rfl, s0, hI0, Nat.le_refl _, rfl⟩
  case round =>
    obtain ⟨n, hn0, hn, rfl, s, hI, hsz, hrun⟩ := hrel
    have HR := Lib.hid hrun
    clear hrun
    by_cases h4 : n = 4
    · subst h4
      go_wp2
      go_end0
      exact ⟨rfl, by rw [HR.out]; exact hI⟩
    · obtain rfl | rfl | rfl | rfl : n = 0 ∨ n = 1 ∨ n = 2 ∨ n = 3 := by omega
      · have hpe := power_eq p h31 0 (by omega)
        generalize hM : placeMany p 0 = M at hpe
        obtain ⟨hp1, hMb⟩ := hpe
        have HP := Lib.hid hp1
        have HMM := Lib.hid hM
        clear hp1 hM
        go_wp2_with fail
        refine (impl_power.calls 6 (p : Int) 3 (M : Int) _ HP.out).mono ?_
        rintro e w1 ⟨rfl, ⟨m1, rfl⟩⟩
        go_wp2
        go_loopw [19] (fun i w' => ∃ c : Nat, c ≤ M ∧ i = .int .i64 c ∧ ∃ s, Inv s w' ∧ w.heap.size ≤ w'.heap.size ∧ runs step s0 (places p) = runs step s (rowFrom p 0 c ++ placesFrom p 3)) (fun i _ => M - (intOf i).toNat)
        case atStart => exact ⟨0, by omega, rfl, s, HM.out _ _ _ hI (pw_below_drewN (Below.refl _ _) _), by simpa using hsz, HR.out⟩
        case round =>
          clear HR hI hsz
          obtain ⟨c, hc, rfl, s, hI, hsz, hrun⟩ := hrel
          have HR := Lib.hid hrun
          clear hrun
          by_cases hlt : c < M
          · go_wp2_with fail
            refine wp_loop_rounds 4 ?_
            rw [rounds_succ]
            go_wp2_with fail
            rw [rounds_succ]
            go_wp2_with fail
            rw [rounds_succ]
            go_wp2_with fail
            rw [rounds_succ]
            go_wp2_with fail
            refine (HQ.out s [1, (wrap64 ((wrap64 ((c : Int) / (p : Int))).tdiv (p : Int))).tmod (p : Int), (wrap64 ((c : Int) / (p : Int))).tmod (p : Int), (c : Int) % (p : Int)] _ 4 _ (HM.out _ _ _ hI ((Below.refl _ _).alloc hsz _)) (by simp; omega) rfl (C_of_block (by simpa using heap_alloc_new wr _) (by simp)) (Nat.le_refl 4)).mono ?_
            rw [show ([1, (wrap64 ((wrap64 ((c : Int) / (p : Int))).tdiv (p : Int))).tmod (p : Int), (wrap64 ((c : Int) / (p : Int))).tmod (p : Int), (c : Int) % (p : Int)] : List Int) = placeRow p 0 c from (by rw [(digits_eq p c h7 (by omega)).1, (digits_eq p c h7 (by omega)).2]; rfl)]
            rintro e w' ⟨rfl, hI2, hsz2⟩
            have hn := rowFrom_step step p 0 c s [] (by rw [HMM.out]; exact hlt)
            have HN := Lib.hid hn
            clear hn
            cases hb : (step s (placeRow p 0 c)).2
            · have hfin : runs step s0 (places p) = (step s (placeRow p 0 c)).1 := by rw [HR.out, HN.out, List.cons_append, runs, if_neg (by rw [hb]; simp)]
              have HF := Lib.hid hfin
              clear hfin
              go_wp2
              refine bodyPost_ret (results_none rfl _ _ _) rfl ?_
              exact ⟨rfl, by rw [HF.out]; exact hI2⟩
            · have hfin : runs step s0 (places p) = runs step (step s (placeRow p 0 c)).1 (rowFrom p 0 (c + 1) ++ placesFrom p 3) := by rw [HR.out, HN.out, List.cons_append, runs, if_pos hb]
              have HF := Lib.hid hfin
              clear hfin
              go_wp2
              exact ⟨⟨c + 1, by omega, by go_num, _, hI2, by simp at hsz2; omega, HF.out⟩, by simp [intOf]; omega⟩
          · go_wp2_with fail
            exact ⟨⟨1, by omega, by omega, rfl, s, hI, hsz, by rw [HR.out, show c = placeMany p 0 from by rw [HMM.out]; omega, rowFrom_end]; rfl⟩, by simp [intOf]⟩
      · have hpe := power_eq p h31 1 (by omega)
        generalize hM : placeMany p 1 = M at hpe
        obtain ⟨hp1, hMb⟩ := hpe
        have HP := Lib.hid hp1
        have HMM := Lib.hid hM
        clear hp1 hM
        go_wp2_with fail
        refine (impl_power.calls 6 (p : Int) 2 (M : Int) _ HP.out).mono ?_
        rintro e w1 ⟨rfl, ⟨m1, rfl⟩⟩
        go_wp2
        go_loopw [19] (fun i w' => ∃ c : Nat, c ≤ M ∧ i = .int .i64 c ∧ ∃ s, Inv s w' ∧ w.heap.size ≤ w'.heap.size ∧ runs step s0 (places p) = runs step s (rowFrom p 1 c ++ placesFrom p 2)) (fun i _ => M - (intOf i).toNat)
        case atStart => exact ⟨0, by omega, rfl, s, HM.out _ _ _ hI (pw_below_drewN (Below.refl _ _) _), by simpa using hsz, HR.out⟩
        case round =>
          clear HR hI hsz
          obtain ⟨c, hc, rfl, s, hI, hsz, hrun⟩ := hrel
          have HR := Lib.hid hrun
          clear hrun
          by_cases hlt : c < M
          · go_wp2_with fail
            refine wp_loop_rounds 3 ?_
            rw [rounds_succ]
            go_wp2_with fail
            rw [rounds_succ]
            go_wp2_with fail
            rw [rounds_succ]
            go_wp2_with fail
            refine (HQ.out s [0, 1, (wrap64 ((c : Int) / (p : Int))).tmod (p : Int), (c : Int) % (p : Int)] _ 4 _ (HM.out _ _ _ hI ((Below.refl _ _).alloc hsz _)) (by simp; omega) rfl (C_of_block (by simpa using heap_alloc_new wr _) (by simp)) (Nat.le_refl 4)).mono ?_
            rw [show ([0, 1, (wrap64 ((c : Int) / (p : Int))).tmod (p : Int), (c : Int) % (p : Int)] : List Int) = placeRow p 1 c from (by rw [(digits_eq p c h7 (by omega)).2]; rfl)]
            rintro e w' ⟨rfl, hI2, hsz2⟩
            have hn := rowFrom_step step p 1 c s [] (by rw [HMM.out]; exact hlt)
            have HN := Lib.hid hn
            clear hn
            cases hb : (step s (placeRow p 1 c)).2
            · have hfin : runs step s0 (places p) = (step s (placeRow p 1 c)).1 := by rw [HR.out, HN.out, List.cons_append, runs, if_neg (by rw [hb]; simp)]
              have HF := Lib.hid hfin
              clear hfin
              go_wp2
              refine bodyPost_ret (results_none rfl _ _ _) rfl ?_
              exact ⟨rfl, by rw [HF.out]; exact hI2⟩
            · have hfin : runs step s0 (places p) = runs step (step s (placeRow p 1 c)).1 (rowFrom p 1 (c + 1) ++ placesFrom p 2) := by rw [HR.out, HN.out, List.cons_append, runs, if_pos hb]
              have HF := Lib.hid hfin
              clear hfin
              go_wp2
              exact ⟨⟨c + 1, by omega, by go_num, _, hI2, by simp at hsz2; omega, HF.out⟩, by simp [intOf]; omega⟩
          · go_wp2_with fail
            exact ⟨⟨2, by omega, by omega, rfl, s, hI, hsz, by rw [HR.out, show c = placeMany p 1 from by rw [HMM.out]; omega, rowFrom_end]; rfl⟩, by simp [intOf]⟩
      · have hpe := power_eq p h31 2 (by omega)
        generalize hM : placeMany p 2 = M at hpe
        obtain ⟨hp1, hMb⟩ := hpe
        have HP := Lib.hid hp1
        have HMM := Lib.hid hM
        clear hp1 hM
        go_wp2_with fail
        refine (impl_power.calls 6 (p : Int) 1 (M : Int) _ HP.out).mono ?_
        rintro e w1 ⟨rfl, ⟨m1, rfl⟩⟩
        go_wp2
        go_loopw [19] (fun i w' => ∃ c : Nat, c ≤ M ∧ i = .int .i64 c ∧ ∃ s, Inv s w' ∧ w.heap.size ≤ w'.heap.size ∧ runs step s0 (places p) = runs step s (rowFrom p 2 c ++ placesFrom p 1)) (fun i _ => M - (intOf i).toNat)
        case atStart => exact ⟨0, by omega, rfl, s, HM.out _ _ _ hI (pw_below_drewN (Below.refl _ _) _), by simpa using hsz, HR.out⟩
        case round =>
          clear HR hI hsz
          obtain ⟨c, hc, rfl, s, hI, hsz, hrun⟩ := hrel
          have HR := Lib.hid hrun
          clear hrun
          by_cases hlt : c < M
          · go_wp2_with fail
            refine wp_loop_rounds 2 ?_
            rw [rounds_succ]
            go_wp2_with fail
            rw [rounds_succ]
            go_wp2_with fail
            refine (HQ.out s [0, 0, 1, (c : Int) % (p : Int)] _ 4 _ (HM.out _ _ _ hI ((Below.refl _ _).alloc hsz _)) (by simp; omega) rfl (C_of_block (by simpa using heap_alloc_new wr _) (by simp)) (Nat.le_refl 4)).mono ?_
            rw [show ([0, 0, 1, (c : Int) % (p : Int)] : List Int) = placeRow p 2 c from rfl]
            rintro e w' ⟨rfl, hI2, hsz2⟩
            have hn := rowFrom_step step p 2 c s [] (by rw [HMM.out]; exact hlt)
            have HN := Lib.hid hn
            clear hn
            cases hb : (step s (placeRow p 2 c)).2
            · have hfin : runs step s0 (places p) = (step s (placeRow p 2 c)).1 := by rw [HR.out, HN.out, List.cons_append, runs, if_neg (by rw [hb]; simp)]
              have HF := Lib.hid hfin
              clear hfin
              go_wp2
              refine bodyPost_ret (results_none rfl _ _ _) rfl ?_
              exact ⟨rfl, by rw [HF.out]; exact hI2⟩
            · have hfin : runs step s0 (places p) = runs step (step s (placeRow p 2 c)).1 (rowFrom p 2 (c + 1) ++ placesFrom p 1) := by rw [HR.out, HN.out, List.cons_append, runs, if_pos hb]
              have HF := Lib.hid hfin
              clear hfin
              go_wp2
              exact ⟨⟨c + 1, by omega, by go_num, _, hI2, by simp at hsz2; omega, HF.out⟩, by simp [intOf]; omega⟩
          · go_wp2_with fail
            exact ⟨⟨3, by omega, by omega, rfl, s, hI, hsz, by rw [HR.out, show c = placeMany p 2 from by rw [HMM.out]; omega, rowFrom_end]; rfl⟩, by simp [intOf]⟩
      · have hpe := power_eq p h31 3 (by omega)
        generalize hM : placeMany p 3 = M at hpe
        obtain ⟨hp1, hMb⟩ := hpe
        have HP := Lib.hid hp1
        have HMM := Lib.hid hM
        clear hp1 hM
        go_wp2_with fail
        refine (impl_power.calls 6 (p : Int) 0 (M : Int) _ HP.out).mono ?_
        rintro e w1 ⟨rfl, ⟨m1, rfl⟩⟩
        go_wp2
        go_loopw [19] (fun i w' => ∃ c : Nat, c ≤ M ∧ i = .int .i64 c ∧ ∃ s, Inv s w' ∧ w.heap.size ≤ w'.heap.size ∧ runs step s0 (places p) = runs step s (rowFrom p 3 c ++ placesFrom p 0)) (fun i _ => M - (intOf i).toNat)
        case atStart => exact ⟨0, by omega, rfl, s, HM.out _ _ _ hI (pw_below_drewN (Below.refl _ _) _), by simpa using hsz, HR.out⟩
        case round =>
          clear HR hI hsz
          obtain ⟨c, hc, rfl, s, hI, hsz, hrun⟩ := hrel
          have HR := Lib.hid hrun
          clear hrun
          by_cases hlt : c < M
          · go_wp2_with fail
            refine wp_loop_rounds 1 ?_
            rw [rounds_succ]
            go_wp2_with fail
            refine (HQ.out s [0, 0, 0, 1] _ 4 _ (HM.out _ _ _ hI ((Below.refl _ _).alloc hsz _)) (by simp; omega) rfl (C_of_block (by simpa using heap_alloc_new wr _) (by simp)) (Nat.le_refl 4)).mono ?_
            rw [show ([0, 0, 0, 1] : List Int) = placeRow p 3 c from rfl]
            rintro e w' ⟨rfl, hI2, hsz2⟩
            have hn := rowFrom_step step p 3 c s [] (by rw [HMM.out]; exact hlt)
            have HN := Lib.hid hn
            clear hn
            cases hb : (step s (placeRow p 3 c)).2
            · have hfin : runs step s0 (places p) = (step s (placeRow p 3 c)).1 := by rw [HR.out, HN.out, List.cons_append, runs, if_neg (by rw [hb]; simp)]
              have HF := Lib.hid hfin
              clear hfin
              go_wp2
              refine bodyPost_ret (results_none rfl _ _ _) rfl ?_
              exact ⟨rfl, by rw [HF.out]; exact hI2⟩
            · have hfin : runs step s0 (places p) = runs step (step s (placeRow p 3 c)).1 (rowFrom p 3 (c + 1) ++ placesFrom p 0) := by rw [HR.out, HN.out, List.cons_append, runs, if_pos hb]
              have HF := Lib.hid hfin
              clear hfin
              go_wp2
              exact ⟨⟨c + 1, by omega, by go_num, _, hI2, by simp at hsz2; omega, HF.out⟩, by simp [intOf]; omega⟩
          · go_wp2_with fail
            exact ⟨⟨4, by omega, by omega, rfl, s, hI, hsz, by rw [HR.out, show c = placeMany p 3 from by rw [HMM.out]; omega, rowFrom_end]; rfl⟩, by simp [intOf]⟩

/-! ### impl_FormCount: function 17 (by hand) -/
/-- one place more, if the form is 0 there -/
def countStep (p : Int) (f : List Int) (n : Int) (a : List Int) : Int × Bool := (if valI p f a = 0 then wrap64 (n + 1) else n, true)
/-- what lies in the three captured variables -/
def CountInv (w0 : World) (b0 b1 b2 : Nat) (p : Int) (A : Option Addr) (c len : Nat) (n : Int) (W : World) : Prop :=
  Below w0.heap.size w0 W ∧ W.heap[b0]? = some (.cells #[.int .i64 p] 3 (0, 0)) ∧ W.heap[b1]? = some (.cells #[.slice A len c] 22 (0, 0)) ∧ W.heap[b2]? = some (.cells #[.int .i64 n] 3 (0, 0))
theorem heap_lt {w : World} {b : Nat} {o : Obj} (h : w.heap[b]? = some o) : b < w.heap.size := (Array.getElem?_eq_some_iff.1 h).1
theorem heap_alloc_old {w : World} {b : Nat} {o : Obj} (h : w.heap[b]? = some o) (o2 : Obj) : (w.alloc o2).heap[b]? = some o := by rw [Below.heap_alloc _ _ _ (heap_lt h)]; exact h
theorem heap_alloc_here (w : World) (o : Obj) : (w.alloc o).heap[w.heap.size]? = some o := by
  show (w.heap.push o)[w.heap.size]? = _
  simp
set_option maxHeartbeats 1000000 in
theorem countTell_any (w0 W : World) (b0 b1 b2 : Nat) (hb02 : b0 ≠ b2) (hb12 : b1 ≠ b2) (hlb : w0.heap.size ≤ b2) (p : Int) (hp : p ≠ 0) (A1 : Option Addr) (c1 : Nat) (f : List Int) (hf : f.length = 20) (hr1 : Kd.C (Kd.int .i64) w0 A1 f.length f) (hc1 : f.length ≤ c1) (n : Int) (a : List Int) (A : Option Addr) (c : Nat)
    (hI : CountInv w0 b0 b1 b2 p A1 c1 f.length n W) (ha : a.length = 4) (hra : Kd.C (Kd.int .i64) W A a.length a) (hca : a.length ≤ c) :
    Calls Try.prog 51 #[.slice A a.length c, .pointer (some ⟨b0, 0, none⟩), .pointer (some ⟨b1, 0, none⟩), .pointer (some ⟨b2, 0, none⟩)] W fun e w' => e = .returned (.bool (countStep p f n a).2) ∧ CountInv w0 b0 b1 b2 p A1 c1 f.length (countStep p f n a).1 w' ∧ W.heap.size ≤ w'.heap.size := by
  obtain ⟨hb, h0, h1, h2⟩ := hI
  obtain ⟨k, hk⟩ := (valueAt_ev p f a hp hf ha).rounds
  have hx0 : W.cell? ⟨b0, 0, none⟩ = some (.int .i64 p) := (blk_cell h0 0).trans rfl
  have hx1 : W.cell? ⟨b1, 0, none⟩ = some (.slice A1 f.length c1) := (blk_cell h1 0).trans rfl
  have hx2 : W.cell? ⟨b2, 0, none⟩ = some (.int .i64 n) := (blk_cell h2 0).trans rfl
  have hf2 : W.frozen? ⟨b2, 0, none⟩ = false := blk_frozen h2 0
  have hr2 := Kd.C_below hr1 hb
  have HK := Lib.hid hk
  have HF := Lib.hid hf
  have HA := Lib.hid ha
  clear hk hf ha
  by_cases hv : valI p f a = 0
  · have hvb : (valI p f a == 0) = true := beq_iff_eq.mpr hv
    have HV := Lib.hid hv
    clear hv
    go_enter Try.func51, Try.ntmps51
    go_wp2_with fail
    refine (impl_valueAt.calls k p _ _ f _ _ a (valI p f a) W hr2 hc1 hra hca HK.out).mono ?_
    rintro e w1 ⟨rfl, ⟨m, rfl⟩⟩
    go_wp2
    go_ret
    refine ⟨rfl, ⟨(pw_below_drewN hb m).trans ((Below.refl _ _).setCell (p := ⟨b2, 0, none⟩) hlb _), ?_, ?_, ?_⟩, by simp [World.setCell]⟩
    · rw [Below.heap_setCell _ _ _ _ hb02]; exact h0
    · rw [Below.heap_setCell _ _ _ _ hb12]; exact h1
    · rw [countStep, if_pos HV.out]
      simpa using blk_set (w := W.drewN m) h2 0 (.int .i64 (wrap64 (n + 1)))
  · have hvb : (valI p f a == 0) = false := beq_eq_false_iff_ne.mpr hv
    have HV := Lib.hid hv
    clear hv
    go_enter Try.func51, Try.ntmps51
    go_wp2_with fail
    refine (impl_valueAt.calls k p _ _ f _ _ a (valI p f a) W hr2 hc1 hra hca HK.out).mono ?_
    rintro e w1 ⟨rfl, ⟨m, rfl⟩⟩
    go_wp2
    go_ret
    exact ⟨rfl, ⟨pw_below_drewN hb m, h0, h1, by rw [countStep, if_neg HV.out]; exact h2⟩, by simp⟩

/-- how many places the form is 0 at -/
def countI (p : Int) (f : List Int) : Int := runs (countStep p f) 0 (places p.toNat)
def impl_FormCount.f (a0 : Int) (l1 : List Int) : Option (Int × Bool) :=
  (impl_areNumbers.f a0 l1 20).bind fun t => if t = true then some (countI a0 l1, true) else some (0, false)
theorem primeB_bounds {p : Int} (h : primeB p = true) : 7 ≤ p ∧ p ≤ 31 := by
  have := of_decide_eq_true h
  omega
theorem ret_ib {k : IntKind} {a b : Int} {c d : Bool} (h : a = b ∧ c = d) : Ending.returned (.tuple #[.int k a, .bool c]) = .returned (.tuple #[.int k b, .bool d]) := by rw [h.1, h.2]
set_option maxHeartbeats 1000000 in
theorem impl_FormCount.calls (a0 : Int) (A1 : Option Addr) (c1 : Nat) (l1 : List Int) (r1 : Int) (r2 : Bool) (w : World) (hr1 : Kd.C (Kd.int .i64) w A1 l1.length l1) (hc1 : l1.length ≤ c1) (h : impl_FormCount.f a0 l1 = some (r1, r2)) :
    Calls Try.prog 17 #[.int .i64 a0, .slice A1 l1.length c1] w fun e w' => e = .returned (.tuple #[.int .i64 r1, .bool r2]) ∧ Below w.heap.size w w' := by
  have hmf : ∀ (fn : Fn) (first cap : Array Value) (w : World), (Instr.makeFunc fn first cap).run Try.prog w = .ok (.func fn first cap) w := fun _ _ _ _ => rfl
  have hb2 : Below w.heap.size w ((w.alloc (.cells #[.int .i64 a0] 3)).alloc (.cells #[.slice A1 l1.length c1] 22)) := ((Below.refl _ _).alloc (Nat.le_refl _) _).alloc (by simp) _
  have hr2 := Kd.C_below hr1 hb2
  obtain ⟨t, ht⟩ : ∃ t, impl_areNumbers.f a0 l1 20 = some t := ⟨_, rfl⟩
  rw [impl_FormCount.f, ht] at h
  have H := Lib.hid h
  have HT := Lib.hid ht
  clear h
  cases t
  · clear ht
    go_enter Try.func17, Try.ntmps17
    go_wp2_with fail
    refine (impl_areNumbers.calls a0 _ _ l1 20 false _ hr2 hc1 HT.out).mono ?_
    rintro e w1 ⟨rfl, hb⟩
    go_wp2
    go_ret2
    exact ⟨ret_ib (by simpa using H.out), hb2.trans (hb.mono (by simp; omega))⟩
  · have hp : primeB a0 = true ∧ l1.length = 20 := by
      have h9 : (primeB a0 && decide ((l1.length : Int) = 20) && l1.all fun x => decide (0 ≤ x) && decide (x < a0)) = true := Option.some.inj ht
      rw [Bool.and_eq_true, Bool.and_eq_true] at h9
      have := of_decide_eq_true h9.1.2
      exact ⟨h9.1.1, by omega⟩
    clear ht
    have hpb := primeB_bounds hp.1
    obtain ⟨p, rfl⟩ := Int.eq_ofNat_of_zero_le (show 0 ≤ a0 by omega)
    have HP := Lib.hid hp
    clear hp
    go_enter Try.func17, Try.ntmps17
    go_wp2_with fail
    refine (impl_areNumbers.calls _ _ _ l1 20 true _ hr2 hc1 HT.out).mono ?_
    rintro e w1 ⟨rfl, hb⟩
    have hx0 : w1.heap[w.heap.size]? = some (.cells #[.int .i64 (p : Int)] 3 (0, 0)) := by
      rw [hb.block _ (by simp; omega)]; exact heap_alloc_old (heap_alloc_here _ _) _
    have hx1 : w1.heap[w.heap.size + 1]? = some (.cells #[.slice A1 l1.length c1] 22 (0, 0)) := by
      rw [hb.block _ (by simp)]; simpa using heap_alloc_here (w.alloc (.cells #[.int .i64 (p : Int)] 3)) (.cells #[.slice A1 l1.length c1] 22)
    have hz1 : w.heap.size + 2 ≤ w1.heap.size := by simpa using hb.size
    have hy0 := heap_alloc_old hx0 (.cells #[.int .i64 0] 3)
    have hy1 := heap_alloc_old hx1 (.cells #[.int .i64 0] 3)
    have hy2 := heap_alloc_here w1 (.cells #[.int .i64 0] 3)
    have hbw : Below w.heap.size w (w1.alloc (.cells #[.int .i64 0] 3)) := (hb2.trans (hb.mono (by simp; omega))).alloc (by omega) _
    have hI0 : CountInv w w.heap.size (w.heap.size + 1) w1.heap.size p A1 c1 l1.length 0 (w1.alloc (.cells #[.int .i64 0] 3)) := ⟨hbw, hy0, hy1, hy2⟩
    have hc0 : (w1.alloc (.cells #[.int .i64 0] 3)).cell? ⟨w.heap.size, 0, none⟩ = some (.int .i64 (p : Int)) := (blk_cell hy0 0).trans rfl
    have HI0 := Lib.hid hI0
    clear hI0 hy0 hy1 hy2 hx0 hx1
    go_wp2_with fail
    refine (eachPlace_any 51 #[.pointer (some ⟨w.heap.size, 0, none⟩), .pointer (some ⟨w.heap.size + 1, 0, none⟩), .pointer (some ⟨w1.heap.size, 0, none⟩)] Int (fun n W => CountInv w w.heap.size (w.heap.size + 1) w1.heap.size p A1 c1 l1.length n W) (countStep p l1) p 0 _ (by omega) (by omega) (Go.Proofs.enters_of Try.func51 (by kernel_rfl) rfl) HI0.out ?m ?q).mono ?_
    case m =>
      rintro s W W' ⟨g0, g1, g2, g3⟩ hbe
      refine ⟨g0.trans (hbe.mono (by simp; omega)), ?_, ?_, ?_⟩
      · rw [hbe.block _ (by simp; omega)]; exact g1
      · rw [hbe.block _ (by simp; omega)]; exact g2
      · rw [hbe.block _ (by simp)]; exact g3
    case q =>
      intro s a A c W hI hsz ha hra hca
      rw [← ha]
      exact countTell_any w W w.heap.size (w.heap.size + 1) w1.heap.size (by omega) (by omega) (by omega) p (by omega) A1 c1 l1 HP.out.2 hr1 hc1 s a A c hI ha hra hca
    rintro e w2 ⟨rfl, g0, g1, g2, g3⟩
    have hx3 : w2.cell? ⟨w1.heap.size, 0, none⟩ = some (.int .i64 (runs (countStep p l1) 0 (places p))) := (blk_cell g3 0).trans rfl
    go_wp2
    go_ret2
    exact ⟨ret_ib (by simpa [countI] using H.out), g0⟩

/-! ### laws_eqIntS: function 18 -/
def laws_eqIntS.l0 : Nat → List Int → List Int → Int → Option (Bool)
  | 0, _, _, _ => none
  | k + 1, x0, x1, x5 => if x5 < (x0.length : Int) then (if 0 ≤ x5 then (if x5 < (x1.length : Int) then (if (rd x0 x5) = (rd x1 x5) then (laws_eqIntS.l0 k x0 x1 (wrap64 (x5 + 1))) else (some false)) else (none)) else (none)) else (some true)
def laws_eqIntS.f (k : Nat) (l0 : List Int) (l1 : List Int) : Option (Bool) := if (l0.length : Int) = (l1.length : Int) then (laws_eqIntS.l0 k l0 l1 0) else (some false)
theorem laws_eqIntS.mono_l : ∀ k, (∀ y0 y1 y2, LeO (laws_eqIntS.l0 k y0 y1 y2) (laws_eqIntS.l0 (k + 1) y0 y1 y2))
  | 0 => fun _ _ _ r h => by simp [laws_eqIntS.l0] at h
  | k + 1 => by
    have ih0 := laws_eqIntS.mono_l k
    · intro y0 y1 y2
      unfold laws_eqIntS.l0
      repeat' first
      | (with_reducible exact ih0 _ _ _)
      | (with_reducible exact LeO.refl _)
      | (with_reducible exact LeO.none _)
      | (with_reducible refine LeO.ite ?_ ?_)
      | (with_reducible refine LeO.bind ?_ (fun _ => ?_))
      | exact ih0 _ _ _
      | exact LeO.none _
      | refine LeO.ite ?_ ?_
      | refine LeO.bind ?_ (fun _ => ?_)
theorem laws_eqIntS.mono : ∀ a0 a1 k, LeO (laws_eqIntS.f k a0 a1) (laws_eqIntS.f (k + 1) a0 a1) := by
  intro a0 a1 k
  have ih0 := laws_eqIntS.mono_l k
  unfold laws_eqIntS.f
  repeat' first
      | (with_reducible exact ih0 _ _ _)
      | (with_reducible exact LeO.refl _)
      | (with_reducible exact LeO.none _)
      | (with_reducible refine LeO.ite ?_ ?_)
      | (with_reducible refine LeO.bind ?_ (fun _ => ?_))
      | exact ih0 _ _ _
      | exact LeO.none _
      | refine LeO.ite ?_ ?_
      | refine LeO.bind ?_ (fun _ => ?_)
set_option maxHeartbeats 8000000 in
set_option maxRecDepth 100000 in
theorem laws_eqIntS.calls (k : Nat) (A0 : Option Addr) (c0 : Nat) (l0 : List Int) (A1 : Option Addr) (c1 : Nat) (l1 : List Int) (r : Bool) (w : World) (hr0 : Kd.C (Kd.int .i64) w A0 l0.length l0) (hc0 : l0.length ≤ c0) (hr1 : Kd.C (Kd.int .i64) w A1 l1.length l1) (hc1 : l1.length ≤ c1) (h : laws_eqIntS.f k l0 l1 = some r) :
    Calls Try.prog 18 #[.slice A0 l0.length c0, .slice A1 l1.length c1] w fun e w' => e = .returned (.bool r) ∧ Drawn0 w w' := by
  have HR0 := Aside0.mk hr0
  have HC0 := Aside0.mk hc0
  clear hr0 hc0
  have HR1 := Aside0.mk hr1
  have HC1 := Aside0.mk hc1
  clear hr1 hc1
  have H : (if (l0.length : Int) = (l1.length : Int) then (laws_eqIntS.l0 k l0 l1 0) else (some false)) = some r := h
  clear h
  by_cases c3 : (l0.length : Int) = (l1.length : Int)
  · rw [if_pos c3] at H
    have c3b0 : ((l0.length : Int) == (l1.length : Int)) = true := beq_iff_eq.mpr c3
    have c3b1 : ((l0.length : Int) != (l1.length : Int)) = false := bne_eq_false_iff_eq.mpr c3
    have c3b2 : (l0.length == l1.length) = true := by first | simpa using c3 | (simp at c3 ⊢; omega)
    clear c3
    have H' := Aside0.mk H
    clear H
    go_enter Try.func18, Try.ntmps18
    go_wp2
    repeat (go_quiet (fail); try go_wp2)
    go_loopg [5] k (fun kq v5 w' => ∃ (x5_1 : Int), v5 = .int .i64 x5_1 ∧ Aside0 (laws_eqIntS.l0 kq l0 l1 x5_1 = some r) ∧ Aside0 (kq ≤ k) ∧ Drawn0 w w')
    case atStart => exact ⟨(0), (by first | rfl | (simp; done) | (simp [*]; done)), H', ⟨Nat.le_refl _⟩, by repeat (first | exact Drawn0.refl _ | apply Drawn0.step)⟩
    case round =>
      clear H'
      try clear c1
      try clear p2
      try clear c3
      try clear c3b0
      try clear c3b1
      try clear c3b2
      obtain ⟨x5_1, rfl, HA, HK1, ⟨m1, rfl⟩⟩ := hrel
      cases gk with
      | zero => exact absurd HA.out (by simp [laws_eqIntS.l0])
      | succ k1 =>
        have H := HA.out
        clear HA
        simp only [laws_eqIntS.l0] at H
        by_cases c4 : x5_1 < (l0.length : Int)
        · rw [if_pos c4] at H
          have c4b0 : decide (x5_1 < (l0.length : Int)) = true := decide_eq_true c4
          clear c4
          by_cases c5 : 0 ≤ x5_1
          · rw [if_pos c5] at H
            have c5b0 : decide (0 ≤ x5_1) = true := decide_eq_true c5
            clear c5
            by_cases c6 : x5_1 < (l1.length : Int)
            · rw [if_pos c6] at H
              have c6b0 : decide (x5_1 < (l1.length : Int)) = true := decide_eq_true c6
              clear c6
              by_cases c7 : (rd l0 x5_1) = (rd l1 x5_1)
              · rw [if_pos c7] at H
                have c7b0 : ((rd l0 x5_1) == (rd l1 x5_1)) = true := beq_iff_eq.mpr c7
                have c7b1 : ((rd l0 x5_1) != (rd l1 x5_1)) = false := bne_eq_false_iff_eq.mpr c7
                clear c7
                have H' := Aside0.mk H
                clear H
                have p136 : 0 ≤ (x5_1 : Int) := of_decide_eq_true (by first | (with_reducible assumption) | assumption)
                have q136 : x5_1 < (l0.length : Int) := of_decide_eq_true (by first | (with_reducible assumption) | assumption)
                obtain ⟨ad136, e136, hx136_0⟩ := Kd.at_int HR0.out x5_1 p136 q136
                cases e136
                replace p136 := eq_true p136
                replace q136 := eq_true q136
                have p137 : 0 ≤ (x5_1 : Int) := of_decide_eq_true (by first | (with_reducible assumption) | assumption)
                have q137 : x5_1 < (l1.length : Int) := of_decide_eq_true (by first | (with_reducible assumption) | assumption)
                obtain ⟨ad137, e137, hx137_0⟩ := Kd.at_int HR1.out x5_1 p137 q137
                cases e137
                replace p137 := eq_true p137
                replace q137 := eq_true q137
                go_wp2
                repeat (go_quiet (fail); try go_wp2)
                go_roundg k1
                case measure => have := HK1.out; omega
                case rel => exact ⟨(wrap64 (x5_1 + 1)), (by first | rfl | (simp; done) | (simp [*]; done)), H', ⟨by have := HK1.out; omega⟩, by repeat (first | exact Drawn0.refl _ | apply Drawn0.step)⟩
              · rw [if_neg c7] at H
                have c7b0 : ((rd l0 x5_1) == (rd l1 x5_1)) = false := beq_eq_false_iff_ne.mpr c7
                have c7b1 : ((rd l0 x5_1) != (rd l1 x5_1)) = true := bne_iff_ne.mpr c7
                obtain rfl := Option.some.inj H
                have p136 : 0 ≤ (x5_1 : Int) := of_decide_eq_true (by first | (with_reducible assumption) | assumption)
                have q136 : x5_1 < (l0.length : Int) := of_decide_eq_true (by first | (with_reducible assumption) | assumption)
                obtain ⟨ad136, e136, hx136_0⟩ := Kd.at_int HR0.out x5_1 p136 q136
                cases e136
                replace p136 := eq_true p136
                replace q136 := eq_true q136
                have p137 : 0 ≤ (x5_1 : Int) := of_decide_eq_true (by first | (with_reducible assumption) | assumption)
                have q137 : x5_1 < (l1.length : Int) := of_decide_eq_true (by first | (with_reducible assumption) | assumption)
                obtain ⟨ad137, e137, hx137_0⟩ := Kd.at_int HR1.out x5_1 p137 q137
                cases e137
                replace p137 := eq_true p137
                replace q137 := eq_true q137
                go_wp2
                repeat (go_quiet (fail); try go_wp2)
                go_ret
                exact ⟨by first | rfl | (simp; done) | (simp [*]; done), by repeat (first | exact Drawn0.refl _ | apply Drawn0.step)⟩
            · rw [if_neg c6] at H
              exact absurd H (by simp)
          · rw [if_neg c5] at H
            exact absurd H (by simp)
        · rw [if_neg c4] at H
          have c4b0 : decide (x5_1 < (l0.length : Int)) = false := decide_eq_false c4
          clear c4
          obtain rfl := Option.some.inj H
          go_wp2
          repeat (go_quiet (fail); try go_wp2)
          go_ret
          exact ⟨by first | rfl | (simp; done) | (simp [*]; done), by repeat (first | exact Drawn0.refl _ | apply Drawn0.step)⟩
  · rw [if_neg c3] at H
    have c3b0 : ((l0.length : Int) == (l1.length : Int)) = false := beq_eq_false_iff_ne.mpr c3
    have c3b1 : ((l0.length : Int) != (l1.length : Int)) = true := bne_iff_ne.mpr c3
    have c3b2 : (l0.length == l1.length) = false := by first | simpa using c3 | (simp at c3 ⊢; omega)
    obtain rfl := Option.some.inj H
    go_enter Try.func18, Try.ntmps18
    go_wp2
    repeat (go_quiet (fail); try go_wp2)
    go_ret
    exact ⟨by first | rfl | (simp; done) | (simp [*]; done), by repeat (first | exact Drawn0.refl _ | apply Drawn0.step)⟩

/-! ### laws_FnExactFormCount: function 3 -/
def laws_FnExactFormCount.j0 : Nat → List Int → List Int → Bool → Option (Bool)
  | 0, _, _, _ => none
  | k + 1, x1, x7, x35 => if x35 = true then (some false) else ((laws_toIntS.f k x1).bind fun t148 => ((laws_eqIntS.f k x7 t148).bind fun t151 => (if t151 = true then (some true) else (some false))))
def laws_FnExactFormCount.f (k : Nat) (a0 : Int) (l1 : List Int) : Option (Bool) := if (l1.length : Int) > 1048576 then (some true) else ((laws_toIntS.f k l1).bind fun t138 => ((spec_FormCount.f k a0 t138).bind fun bt141 => ((laws_toIntS.f k l1).bind fun t143 => ((impl_FormCount.f a0 t143).bind fun bt146 => (if bt146.1 = bt141.1 then (laws_FnExactFormCount.j0 k l1 t143 (bt146.2 != bt141.2)) else (laws_FnExactFormCount.j0 k l1 t143 true))))))
theorem laws_FnExactFormCount.mono_l : ∀ k, (∀ y0 y1 y2, LeO (laws_FnExactFormCount.j0 k y0 y1 y2) (laws_FnExactFormCount.j0 (k + 1) y0 y1 y2))
  | 0 => fun _ _ _ r h => by simp [laws_FnExactFormCount.j0] at h
  | k + 1 => by
    have ih0 := laws_FnExactFormCount.mono_l k
    · intro y0 y1 y2
      unfold laws_FnExactFormCount.j0
      repeat' first
      | (with_reducible exact ih0 _ _ _)
      | (with_reducible exact laws_eqIntS.mono _ _ _)
      | (with_reducible exact laws_toIntS.mono _ _)
      | (with_reducible exact spec_FormCount.mono _ _ _)
      | (with_reducible exact LeO.refl _)
      | (with_reducible exact LeO.none _)
      | (with_reducible refine LeO.ite ?_ ?_)
      | (with_reducible refine LeO.bind ?_ (fun _ => ?_))
      | exact ih0 _ _ _
      | exact laws_eqIntS.mono _ _ _
      | exact laws_toIntS.mono _ _
      | exact spec_FormCount.mono _ _ _
      | exact LeO.none _
      | refine LeO.ite ?_ ?_
      | refine LeO.bind ?_ (fun _ => ?_)
theorem laws_FnExactFormCount.mono : ∀ a0 a1 k, LeO (laws_FnExactFormCount.f k a0 a1) (laws_FnExactFormCount.f (k + 1) a0 a1) := by
  intro a0 a1 k
  have ih0 := laws_FnExactFormCount.mono_l k
  unfold laws_FnExactFormCount.f
  repeat' first
      | (with_reducible exact ih0 _ _ _)
      | (with_reducible exact laws_eqIntS.mono _ _ _)
      | (with_reducible exact laws_toIntS.mono _ _)
      | (with_reducible exact spec_FormCount.mono _ _ _)
      | (with_reducible exact LeO.refl _)
      | (with_reducible exact LeO.none _)
      | (with_reducible refine LeO.ite ?_ ?_)
      | (with_reducible refine LeO.bind ?_ (fun _ => ?_))
      | exact ih0 _ _ _
      | exact laws_eqIntS.mono _ _ _
      | exact laws_toIntS.mono _ _
      | exact spec_FormCount.mono _ _ _
      | exact LeO.none _
      | refine LeO.ite ?_ ?_
      | refine LeO.bind ?_ (fun _ => ?_)
set_option maxHeartbeats 8000000 in
set_option maxRecDepth 100000 in
theorem laws_FnExactFormCount.calls (k : Nat) (a0 : Int) (A1 : Option Addr) (c1 : Nat) (l1 : List Int) (r : Bool) (w : World) (hr1 : Kd.C (Kd.int .i64) w A1 l1.length l1) (hc1 : l1.length ≤ c1) (h : laws_FnExactFormCount.f k a0 l1 = some r) :
    Calls Try.prog 3 #[.int .i64 a0, .slice A1 l1.length c1] w fun e w' => e = .returned (.bool r) ∧ Below w.heap.size w w' := by
  have HR1 := Aside0.mk hr1
  have HC1 := Aside0.mk hc1
  clear hr1 hc1
  have HB := Aside0.mk (Below.refl w.heap.size w)
  have H : (if (l1.length : Int) > 1048576 then (some true) else ((laws_toIntS.f k l1).bind fun t138 => ((spec_FormCount.f k a0 t138).bind fun bt141 => ((laws_toIntS.f k l1).bind fun t143 => ((impl_FormCount.f a0 t143).bind fun bt146 => (if bt146.1 = bt141.1 then (laws_FnExactFormCount.j0 k l1 t143 (bt146.2 != bt141.2)) else (laws_FnExactFormCount.j0 k l1 t143 true))))))) = some r := h
  clear h
  by_cases c3 : (l1.length : Int) > 1048576
  · rw [if_pos c3] at H
    have c3b0 : decide (1048576 < (l1.length : Int)) = true := decide_eq_true c3
    have c3b1 : decide (1048576 < l1.length) = true := decide_eq_true (by omega)
    clear c3
    obtain rfl := Option.some.inj H
    go_enter Try.func3, Try.ntmps3
    go_wp2
    go_ret
    exact ⟨by first | rfl | (simp [errW_none, errW_some] <;> rfl) | (simp [*, errW_none, errW_some] <;> rfl), by repeat (first | (with_reducible first | exact HB.out | apply below_alloc | apply pw_below_drewN | apply below_drew1) | exact HB.out)⟩
  · rw [if_neg c3] at H
    have c3b0 : decide (1048576 < (l1.length : Int)) = false := decide_eq_false c3
    have c3b1 : decide (1048576 < l1.length) = false := decide_eq_false (by omega)
    clear c3
    replace H := Option.bind_eq_some_iff.mp H
    obtain ⟨t138, A40, H⟩ := H
    replace H : ((spec_FormCount.f k a0 t138).bind fun bt141 => ((laws_toIntS.f k l1).bind fun t143 => ((impl_FormCount.f a0 t143).bind fun bt146 => (if bt146.1 = bt141.1 then (laws_FnExactFormCount.j0 k l1 t143 (bt146.2 != bt141.2)) else (laws_FnExactFormCount.j0 k l1 t143 true))))) = some r := H
    have A4 := Aside0.mk A40
    clear A40
    replace H := Option.bind_eq_some_iff.mp H
    obtain ⟨⟨t141, t142⟩, A50, H⟩ := H
    replace H : ((laws_toIntS.f k l1).bind fun t143 => ((impl_FormCount.f a0 t143).bind fun bt146 => (if bt146.1 = t141 then (laws_FnExactFormCount.j0 k l1 t143 (bt146.2 != t142)) else (laws_FnExactFormCount.j0 k l1 t143 true)))) = some r := H
    have A5 := Aside0.mk A50
    clear A50
    replace H := Option.bind_eq_some_iff.mp H
    obtain ⟨t143, A60, H⟩ := H
    replace H : ((impl_FormCount.f a0 t143).bind fun bt146 => (if bt146.1 = t141 then (laws_FnExactFormCount.j0 k l1 t143 (bt146.2 != t142)) else (laws_FnExactFormCount.j0 k l1 t143 true))) = some r := H
    have A6 := Aside0.mk A60
    clear A60
    replace H := Option.bind_eq_some_iff.mp H
    obtain ⟨⟨t146, t147⟩, A70, H⟩ := H
    replace H : (if t146 = t141 then (laws_FnExactFormCount.j0 k l1 t143 (t147 != t142)) else (laws_FnExactFormCount.j0 k l1 t143 true)) = some r := H
    have A7 := Aside0.mk A70
    clear A70
    have HC8 := Aside0.mk H
    clear H
    go_enter Try.func3, Try.ntmps3
    go_upto_region 6 with (first | ((with_reducible refine gate_callee (f := 16) rfl ?_); refine goesL_ (some 16) rfl rfl Try.func16 (by kernel_rfl) rfl #[.slice A1 l1.length c1] rfl (by (try simp only [List.map_toArray, List.map_cons, List.map_nil]); first | done | rfl | (simp only [List.length_drop, List.length_take]; rfl)) ?_; (with_reducible refine (laws_toIntS.calls k _ _ l1 t138 _ ?side1 ?side2 A4.out).mono ?_); (case side1 => repeat (first | exact HR1.out | (with_reducible refine Kd.C_alloc ?_ _) | (with_reducible refine Kd.C_drewN ?_ _) | (with_reducible refine Kd.C_drew ?_))); (case side2 => exact HC1.out); rintro e w9 ⟨v139, rfl, ho0, hb⟩; refine ⟨_, rfl, ?_⟩; have n0_ := Aside0.mk (Kd.R_lower ho0 (below_size (by repeat (first | (with_reducible first | exact HB.out | apply below_alloc | apply pw_below_drewN | apply below_drew1) | exact HB.out)))); have n1_ := Aside0.mk (below_step (by repeat (first | (with_reducible first | exact HB.out | apply below_alloc | apply pw_below_drewN | apply below_drew1) | exact HB.out)) hb); clear HB; have HO140 := n0_; have HB := n1_; clear n0_ n1_; (try clear hb); (try clear hb2); (try clear hk); (try clear hi); (try clear ho0); obtain ⟨Ao10, co10, eo10⟩ := Kd.R_slice HO140.out; subst eo10) | ((with_reducible refine gate_callee (f := 15) rfl ?_); refine goesL_ (some 17) rfl rfl Try.func15 (by kernel_rfl) rfl #[.int .i64 a0, .slice Ao10 t138.length co10] rfl (by (try simp only [List.map_toArray, List.map_cons, List.map_nil]); first | done | rfl | (simp only [List.length_drop, List.length_take]; rfl)) ?_; (with_reducible refine (spec_FormCount.calls k a0 _ _ t138 t141 t142 _ ?side1 ?side2 A5.out).mono ?_); (case side1 => repeat (first | exact (Kd.R_reads' HO140.out).2.2 | (with_reducible refine Kd.C_alloc ?_ _) | (with_reducible refine Kd.C_drewN ?_ _) | (with_reducible refine Kd.C_drew ?_))); (case side2 => exact (Kd.R_reads' HO140.out).2.1); rintro e w11 ⟨rfl, hb⟩; refine ⟨_, rfl, ?_⟩; have n0_ := Aside0.mk (Kd.R_below (by (with_reducible repeat (first | apply Kd.R_alloc | apply Kd.R_drewN | apply Kd.R_drew)); exact HO140.out) hb); have n1_ := Aside0.mk (below_step (by repeat (first | (with_reducible first | exact HB.out | apply below_alloc | apply pw_below_drewN | apply below_drew1) | exact HB.out)) hb); clear HO140; clear HB; have HO140 := n0_; have HB := n1_; clear n0_ n1_; (try clear hb); (try clear hb2); (try clear hk); (try clear hi)) | ((with_reducible refine gate_callee (f := 16) rfl ?_); refine goesL_ (some 21) rfl rfl Try.func16 (by kernel_rfl) rfl #[.slice A1 l1.length c1] rfl (by (try simp only [List.map_toArray, List.map_cons, List.map_nil]); first | done | rfl | (simp only [List.length_drop, List.length_take]; rfl)) ?_; (with_reducible refine (laws_toIntS.calls k _ _ l1 t143 _ ?side1 ?side2 A6.out).mono ?_); (case side1 => repeat (first | exact (Kd.C_below HR1.out HB.out) | (with_reducible refine Kd.C_alloc ?_ _) | (with_reducible refine Kd.C_drewN ?_ _) | (with_reducible refine Kd.C_drew ?_))); (case side2 => exact HC1.out); rintro e w12 ⟨v144, rfl, ho0, hb⟩; refine ⟨_, rfl, ?_⟩; have n0_ := Aside0.mk (Kd.R_elder' (by (with_reducible repeat (first | apply Kd.R_alloc | apply Kd.R_drewN | apply Kd.R_drew)); exact HO140.out) (Kd.R_base ho0) hb); have n1_ := Aside0.mk (Kd.R_lower (Kd.R_new' ho0 (Kd.R_lt (by (with_reducible repeat (first | apply Kd.R_alloc | apply Kd.R_drewN | apply Kd.R_drew)); exact HO140.out))) (below_size (by repeat (first | (with_reducible first | exact HB.out | apply below_alloc | apply pw_below_drewN | apply below_drew1) | exact HB.out)))); have n2_ := Aside0.mk (below_step (by repeat (first | (with_reducible first | exact HB.out | apply below_alloc | apply pw_below_drewN | apply below_drew1) | exact HB.out)) hb); clear HO140; clear HB; have HO140 := n0_; have HO145 := n1_; have HB := n2_; clear n0_ n1_ n2_; (try clear hb); (try clear hb2); (try clear hk); (try clear hi); (try clear ho0); obtain ⟨Ao13, co13, eo13⟩ := Kd.R_slice HO145.out; subst eo13) | ((with_reducible refine gate_callee (f := 17) rfl ?_); refine goesL_ (some 25) rfl rfl Try.func17 (by kernel_rfl) rfl #[.int .i64 a0, .slice Ao13 t143.length co13] rfl (by (try simp only [List.map_toArray, List.map_cons, List.map_nil]); first | done | rfl | (simp only [List.length_drop, List.length_take]; rfl)) ?_; (with_reducible refine (impl_FormCount.calls a0 _ _ t143 t146 t147 _ ?side1 ?side2 A7.out).mono ?_); (case side1 => repeat (first | exact (Kd.R_reads' HO145.out).2.2 | (with_reducible refine Kd.C_alloc ?_ _) | (with_reducible refine Kd.C_drewN ?_ _) | (with_reducible refine Kd.C_drew ?_))); (case side2 => exact (Kd.R_reads' HO145.out).2.1); rintro e w14 ⟨rfl, hb⟩; refine ⟨_, rfl, ?_⟩; have n0_ := Aside0.mk (Kd.R_below (by (with_reducible repeat (first | apply Kd.R_alloc | apply Kd.R_drewN | apply Kd.R_drew)); exact HO140.out) hb); have n1_ := Aside0.mk (Kd.R_below (by (with_reducible repeat (first | apply Kd.R_alloc | apply Kd.R_drewN | apply Kd.R_drew)); exact HO145.out) hb); have n2_ := Aside0.mk (below_step (by repeat (first | (with_reducible first | exact HB.out | apply below_alloc | apply pw_below_drewN | apply below_drew1) | exact HB.out)) hb); clear HO140; clear HO145; clear HB; have HO140 := n0_; have HO145 := n1_; have HB := n2_; clear n0_ n1_ n2_; (try clear hb); (try clear hb2); (try clear hk); (try clear hi)))
    (try simp only [Act.put, List.setIfInBounds_toArray, List.set_cons_zero, List.set_cons_succ])
    go_cut [35] (fun v35 wc => ∃ (kq : Nat) (x35_7 : Bool), v35 = .bool x35_7 ∧ Aside0 (laws_FnExactFormCount.j0 kq l1 t143 x35_7 = some r) ∧ Aside0 (kq ≤ k) ∧ Aside0 (Kd.R (Kd.int .i64) 3 wc w.heap.size (fun _ => True) (.slice Ao13 t143.length co13) t143) ∧ Aside0 (Below w.heap.size w wc))
    case first =>
      have H := HC8.out
      clear HC8
      by_cases c15 : t146 = t141
      · rw [if_pos c15] at H
        have c15b0 : (t146 == t141) = true := beq_iff_eq.mpr c15
        have c15b1 : (t146 != t141) = false := bne_eq_false_iff_eq.mpr c15
        clear c15
        (first | rw [c15b0] | (simp only [i64_w, i32_w]; rw [c15b0]) | skip)
        have H' := Aside0.mk H
        clear H
        go_wp2
        go_meet
        case rel => exact ⟨_, ((t147 != t142)), (by first | rfl | (simp; done) | (simp [*]; done)), H', ⟨by first | omega | exact Nat.le_refl _⟩, ⟨by (with_reducible repeat (first | apply Kd.R_alloc | apply Kd.R_drewN | apply Kd.R_drew)); exact Kd.R_mono HO145.out (fun _ hk => trivial)⟩, ⟨by repeat (first | (with_reducible first | exact HB.out | apply below_alloc | apply pw_below_drewN | apply below_drew1) | exact HB.out)⟩⟩
      · rw [if_neg c15] at H
        have c15b0 : (t146 == t141) = false := beq_eq_false_iff_ne.mpr c15
        have c15b1 : (t146 != t141) = true := bne_iff_ne.mpr c15
        (first | rw [c15b0] | (simp only [i64_w, i32_w]; rw [c15b0]) | skip)
        have H' := Aside0.mk H
        clear H
        go_wp2
        go_meet
        case rel => exact ⟨_, (true), (by first | rfl | (simp; done) | (simp [*]; done)), H', ⟨by first | omega | exact Nat.le_refl _⟩, ⟨by (with_reducible repeat (first | apply Kd.R_alloc | apply Kd.R_drewN | apply Kd.R_drew)); exact Kd.R_mono HO145.out (fun _ hk => trivial)⟩, ⟨by repeat (first | (with_reducible first | exact HB.out | apply below_alloc | apply pw_below_drewN | apply below_drew1) | exact HB.out)⟩⟩
    case rest =>
      clear HC8
      try clear c1
      try clear p2
      try clear c3
      try clear c3b0
      try clear c3b1
      try clear c15
      try clear c15b0
      try clear c15b1
      obtain ⟨kq, x35_7, rfl, HA, HJ7, HO_7, HB⟩ := hcut
      cases kq with
      | zero => exact absurd HA.out (by simp [laws_FnExactFormCount.j0])
      | succ kj7 =>
        have H := HA.out
        clear HA
        simp only [laws_FnExactFormCount.j0] at H
        by_cases c16 : x35_7 = true
        · subst c16
          have H1 : (some false) = some r := by rw [if_pos rfl] at H; exact H
          clear H
          have H := H1
          clear H1
          obtain rfl := Option.some.inj H
          go_wp2
          go_ret
          exact ⟨by first | rfl | (simp [errW_none, errW_some] <;> rfl) | (simp [*, errW_none, errW_some] <;> rfl), by repeat (first | (with_reducible first | exact HB.out | apply below_alloc | apply pw_below_drewN | apply below_drew1) | exact HB.out)⟩
        · replace c16 := Bool.eq_false_iff.mpr c16
          subst c16
          have H1 : ((laws_toIntS.f kj7 l1).bind fun t148 => ((laws_eqIntS.f kj7 t143 t148).bind fun t151 => (if t151 = true then (some true) else (some false)))) = some r := by rw [if_neg (show ¬ (false = true) by decide)] at H; exact H
          clear H
          have H := H1
          clear H1
          replace H := Option.bind_eq_some_iff.mp H
          obtain ⟨t148, A170, H⟩ := H
          replace H : ((laws_eqIntS.f kj7 t143 t148).bind fun t151 => (if t151 = true then (some true) else (some false))) = some r := H
          have A17 := Aside0.mk A170
          clear A170
          replace H := Option.bind_eq_some_iff.mp H
          obtain ⟨t151, A180, H⟩ := H
          replace H : (if t151 = true then (some true) else (some false)) = some r := H
          have A18 := Aside0.mk A180
          clear A180
          by_cases c19 : t151 = true
          · subst c19
            have H1 : (some true) = some r := by rw [if_pos rfl] at H; exact H
            clear H
            have H := H1
            clear H1
            obtain rfl := Option.some.inj H
            go_wp2_with (first | ((with_reducible refine gate_callee (f := 16) rfl ?_); refine goesL_ (some 38) rfl rfl Try.func16 (by kernel_rfl) rfl #[.slice A1 l1.length c1] rfl (by (try simp only [List.map_toArray, List.map_cons, List.map_nil]); first | done | rfl | (simp only [List.length_drop, List.length_take]; rfl)) ?_; (with_reducible refine (laws_toIntS.calls kj7 _ _ l1 t148 _ ?side1 ?side2 A17.out).mono ?_); (case side1 => repeat (first | exact (Kd.C_below HR1.out HB.out) | (with_reducible refine Kd.C_alloc ?_ _) | (with_reducible refine Kd.C_drewN ?_ _) | (with_reducible refine Kd.C_drew ?_))); (case side2 => exact HC1.out); rintro e w20 ⟨v149, rfl, ho0, hb⟩; refine ⟨_, rfl, ?_⟩; have n0_ := Aside0.mk (Kd.R_elder' (by (with_reducible repeat (first | apply Kd.R_alloc | apply Kd.R_drewN | apply Kd.R_drew)); exact HO_7.out) (Kd.R_base ho0) hb); have n1_ := Aside0.mk (Kd.R_lower (Kd.R_new' ho0 (Kd.R_lt (by (with_reducible repeat (first | apply Kd.R_alloc | apply Kd.R_drewN | apply Kd.R_drew)); exact HO_7.out))) (below_size (by repeat (first | (with_reducible first | exact HB.out | apply below_alloc | apply pw_below_drewN | apply below_drew1) | exact HB.out)))); have n2_ := Aside0.mk (below_step (by repeat (first | (with_reducible first | exact HB.out | apply below_alloc | apply pw_below_drewN | apply below_drew1) | exact HB.out)) hb); clear HO_7; clear HB; have HO_7 := n0_; have HO150 := n1_; have HB := n2_; clear n0_ n1_ n2_; (try clear hb); (try clear hb2); (try clear hk); (try clear hi); (try clear ho0); obtain ⟨Ao21, co21, eo21⟩ := Kd.R_slice HO150.out; subst eo21) | ((with_reducible refine gate_callee (f := 18) rfl ?_); refine goesL_ (some 39) rfl rfl Try.func18 (by kernel_rfl) rfl #[.slice Ao13 t143.length co13, .slice Ao21 t148.length co21] rfl (by (try simp only [List.map_toArray, List.map_cons, List.map_nil]); first | done | rfl | (simp only [List.length_drop, List.length_take]; rfl)) ?_; (with_reducible refine (laws_eqIntS.calls kj7 _ _ t143 _ _ t148 true _ ?side1 ?side2 ?side3 ?side4 A18.out).mono ?_); (case side1 => repeat (first | exact (Kd.R_reads' HO_7.out).2.2 | (with_reducible refine Kd.C_alloc ?_ _) | (with_reducible refine Kd.C_drewN ?_ _) | (with_reducible refine Kd.C_drew ?_))); (case side2 => exact (Kd.R_reads' HO_7.out).2.1); (case side3 => repeat (first | exact (Kd.R_reads' HO150.out).2.2 | (with_reducible refine Kd.C_alloc ?_ _) | (with_reducible refine Kd.C_drewN ?_ _) | (with_reducible refine Kd.C_drew ?_))); (case side4 => exact (Kd.R_reads' HO150.out).2.1); rintro e w' ⟨rfl, ⟨nd, rfl⟩⟩; refine ⟨_, rfl, ?_⟩))
            go_ret
            exact ⟨by first | rfl | (simp [errW_none, errW_some] <;> rfl) | (simp [*, errW_none, errW_some] <;> rfl), by repeat (first | (with_reducible first | exact HB.out | apply below_alloc | apply pw_below_drewN | apply below_drew1) | exact HB.out)⟩
          · replace c19 := Bool.eq_false_iff.mpr c19
            subst c19
            have H1 : (some false) = some r := by rw [if_neg (show ¬ (false = true) by decide)] at H; exact H
            clear H
            have H := H1
            clear H1
            obtain rfl := Option.some.inj H
            go_wp2_with (first | ((with_reducible refine gate_callee (f := 16) rfl ?_); refine goesL_ (some 38) rfl rfl Try.func16 (by kernel_rfl) rfl #[.slice A1 l1.length c1] rfl (by (try simp only [List.map_toArray, List.map_cons, List.map_nil]); first | done | rfl | (simp only [List.length_drop, List.length_take]; rfl)) ?_; (with_reducible refine (laws_toIntS.calls kj7 _ _ l1 t148 _ ?side1 ?side2 A17.out).mono ?_); (case side1 => repeat (first | exact (Kd.C_below HR1.out HB.out) | (with_reducible refine Kd.C_alloc ?_ _) | (with_reducible refine Kd.C_drewN ?_ _) | (with_reducible refine Kd.C_drew ?_))); (case side2 => exact HC1.out); rintro e w22 ⟨v149, rfl, ho0, hb⟩; refine ⟨_, rfl, ?_⟩; have n0_ := Aside0.mk (Kd.R_elder' (by (with_reducible repeat (first | apply Kd.R_alloc | apply Kd.R_drewN | apply Kd.R_drew)); exact HO_7.out) (Kd.R_base ho0) hb); have n1_ := Aside0.mk (Kd.R_lower (Kd.R_new' ho0 (Kd.R_lt (by (with_reducible repeat (first | apply Kd.R_alloc | apply Kd.R_drewN | apply Kd.R_drew)); exact HO_7.out))) (below_size (by repeat (first | (with_reducible first | exact HB.out | apply below_alloc | apply pw_below_drewN | apply below_drew1) | exact HB.out)))); have n2_ := Aside0.mk (below_step (by repeat (first | (with_reducible first | exact HB.out | apply below_alloc | apply pw_below_drewN | apply below_drew1) | exact HB.out)) hb); clear HO_7; clear HB; have HO_7 := n0_; have HO150 := n1_; have HB := n2_; clear n0_ n1_ n2_; (try clear hb); (try clear hb2); (try clear hk); (try clear hi); (try clear ho0); obtain ⟨Ao23, co23, eo23⟩ := Kd.R_slice HO150.out; subst eo23) | ((with_reducible refine gate_callee (f := 18) rfl ?_); refine goesL_ (some 39) rfl rfl Try.func18 (by kernel_rfl) rfl #[.slice Ao13 t143.length co13, .slice Ao23 t148.length co23] rfl (by (try simp only [List.map_toArray, List.map_cons, List.map_nil]); first | done | rfl | (simp only [List.length_drop, List.length_take]; rfl)) ?_; (with_reducible refine (laws_eqIntS.calls kj7 _ _ t143 _ _ t148 false _ ?side1 ?side2 ?side3 ?side4 A18.out).mono ?_); (case side1 => repeat (first | exact (Kd.R_reads' HO_7.out).2.2 | (with_reducible refine Kd.C_alloc ?_ _) | (with_reducible refine Kd.C_drewN ?_ _) | (with_reducible refine Kd.C_drew ?_))); (case side2 => exact (Kd.R_reads' HO_7.out).2.1); (case side3 => repeat (first | exact (Kd.R_reads' HO150.out).2.2 | (with_reducible refine Kd.C_alloc ?_ _) | (with_reducible refine Kd.C_drewN ?_ _) | (with_reducible refine Kd.C_drew ?_))); (case side4 => exact (Kd.R_reads' HO150.out).2.1); rintro e w' ⟨rfl, ⟨nd, rfl⟩⟩; refine ⟨_, rfl, ?_⟩))
            go_ret
            exact ⟨by first | rfl | (simp [errW_none, errW_some] <;> rfl) | (simp [*, errW_none, errW_some] <;> rfl), by repeat (first | (with_reducible first | exact HB.out | apply below_alloc | apply pw_below_drewN | apply below_drew1) | exact HB.out)⟩

/-- THE ONE PURE STATEMENT of laws_FnExactFormCount: yours. -/
def laws_FnExactFormCount.Pure : Prop := ∀ (a0 : Int) (l1 : List Int), (Lit.int .i64 a0).wf = true → l1.length ≤ maxLen → l1.length * 8 ≤ 140737488351232 → (∀ x ∈ l1, (Lit.int .i64 x).wf = true) → ∃ k, laws_FnExactFormCount.f k a0 l1 = some true
theorem laws_FnExactFormCount.walk (P : laws_FnExactFormCount.Pure) (a0 : Int) (a1 : Option Addr) (len1 cap1 : Nat) (z1 : List Int) (w : World) (w0 : (Lit.int .i64 a0).wf = true) (w1 : (a1 = none ∧ len1 = 0 ∧ cap1 = 0 ∧ z1 = []) ∨ ∃ x, a1 = some x ∧ len1 ≤ cap1 ∧ cap1 ≤ maxLen ∧ z1.length = cap1 ∧ (∀ i, i < z1.length → w.cell? (x.add i) = some (.int .i64 (z1.getD i 0))) ∧ ∀ n ∈ z1, (Lit.int .i64 n).wf = true) (y1 : len1 * 8 ≤ 140737488351232) :
    Calls Try.prog 3 #[.int .i64 a0, .slice a1 len1 cap1] w fun e w' => e = .returned (.bool true) ∧ Below w.heap.size w w' := by
  obtain ⟨l1, rfl, hr1, hm1, hw1, hc1⟩ := ReadsInt.ofRowC w1
  obtain ⟨k, h⟩ := P a0 l1 w0 hm1 y1 hw1
  refine (laws_FnExactFormCount.calls k a0 _ _ l1 true w (Kd.C_of_reads (d := (0 : Int)) (h1 := fun _ => rfl) hr1) hc1 h).mono ?_
  rintro e w' ⟨rfl, hd⟩
  exact ⟨rfl, hd⟩

end Go.Proofs.Ytdgopdbmbaiddaa.PA
