-- Written by xprint.py, a program of this claim's own (over the kit's print.py)
import Derived.Test.YtmgbpmihbljngaaPAx0
import Derived.Deep.WholeRow
import Derived.Maps.RangeWalk
import Derived.Maps.Ext
import Derived.DeepKeys4
namespace Go.Proofs.Ytmgbpmihbljngaa.PA
open Go.RowKit Go.Proofs.YtmgbpmihbljngaaW.PrintWords Go.Proofs.YtmgbpmihbljngaaW.PrintLast Go.Proofs.YtmgbpmihbljngaaW.PrintMore
attribute [local go_sem] j9 j8 Qf Qg js jr j6 j7
set_option linter.unusedVariables false
set_option linter.unusedSimpArgs false
theorem qi3 : laidOutB Try.prog = true := by kernel_rfl
theorem J1 : Try.prog.underlying 108 = some (.array 2 3) := Try.underlying108
theorem qmk : WideMaps.KeyLaw Try.prog 108 := deep_law_laid qi3 (m := 2) (by omega) (of_decide_eq_true (by kernel_rfl)) (by kernel_rfl) (by rw [J1])
theorem Jl : Go.Maps.Keyed Try.prog 108 := Go.Maps.Keyed.of_law qmk
theorem qel : Try.prog.cellsOf 108 = 2 := by kernel_rfl
theorem qna : Try.prog.cellsOf 3 = 1 := by kernel_rfl
theorem pm_kt : Try.prog.keyType 108 = true := by kernel_rfl
theorem qa4 : Try.prog.underlying 3 = some (.int .i64) := by kernel_rfl
theorem qk6 : Try.prog.types.size + 1 = (Try.prog.types.size - 1) + 1 + 1 := by kernel_rfl
def pv (a b : Int) : Value := .agg #[.int .i64 a, .int .i64 b]
def pk (a b : Int) : Lit := .string (keyBytes [.int .i64 a, .int .i64 b])
def i64w (a : Int) : Prop := (Lit.int .i64 a).wf = true
theorem qk9 (c0 c1 : Value) (n : Nat) : Try.prog.keyLits (n + 1 + 1) 108 [c0, c1] = (Try.prog.keyLits (n + 1) 3 [c0]).bind fun l0 => (Try.prog.keyLits (n + 1) 3 [c1]).map fun l1 => l0 ++ l1 := by
 conv => lhs; unfold Program.keyLits
 simp only [J1, qel, qna, List.length_cons, List.length_nil, if_true, List.range_succ, List.range_zero, List.nil_append, List.cons_append]
 cases h0 : Try.prog.keyLits (n + 1) 3 [c0] <;> cases h1 : Try.prog.keyLits (n + 1) 3 [c1] <;> simp [List.mapM_cons, h0, h1]
theorem qkk (n : Nat) (a : Int) (ha : i64w a) : Try.prog.keyLits (n + 1) 3 [.int .i64 a] = some [.int .i64 a] := by
 unfold Program.keyLits
 simp only [qa4]
 rw [if_pos ⟨trivial, ha⟩]
theorem qfn {a b : Int} (ha : i64w a) (hb : i64w b) : keyOf Try.prog 108 (pv a b) = some (pk a b) := by
 unfold keyOf
 rw [J1]
 have hf : (pv a b).formed Try.prog 108 = true := by simp [pv, Value.formed, J1, qel]
 simp only [pm_kt, hf, Bool.and_self, if_true]
 rw [qk6, show (pv a b).cells.toList = [.int .i64 a, .int .i64 b] from rfl, qk9, qkk _ a ha, qkk _ b hb]
 rfl
theorem qk5 (n : Nat) (c : Value) (l : List Lit) (h : Try.prog.keyLits (n + 1) 3 [c] = some l) : ∃ a, c = .int .i64 a ∧ l = [.int .i64 a] ∧ i64w a := by
 cases c
 case int q m =>
  unfold Program.keyLits at h
  simp only [qa4] at h
  split at h
  ·next hw =>
   obtain ⟨rfl, hw⟩ := hw
   obtain rfl := Option.some.inj h
   exact ⟨m, rfl, rfl, hw⟩
  ·exact absurd h (by simp)
 all_goals (unfold Program.keyLits at h; simp [qa4] at h)
theorem qm6 {key : Value} {kl : Lit} (h : keyOf Try.prog 108 key = some kl) : ∃ a b, key = pv a b ∧ kl = pk a b ∧ i64w a ∧ i64w b := by
 unfold keyOf at h
 rw [J1] at h
 dsimp only at h
 split at h
 rotate_left
 ·exact absurd h (by simp)
 next hc =>
 rw [Bool.and_eq_true] at hc
 have hf := hc.2
 obtain ⟨ls, hl, rfl⟩ := Option.map_eq_some_iff.1 h
 unfold Value.formed at hf
 rw [J1] at hf
 cases key <;> simp [qel] at hf
 next cs =>
 match hcs : cs.toList with
 | [c0, c1] =>
  have hl' : (Value.agg cs).cells.toList = [c0, c1] := hcs
  rw [hl', qk6, qk9] at hl
  obtain ⟨l0, h0, hl⟩ := Option.bind_eq_some_iff.1 hl
  obtain ⟨l1, h1, rfl⟩ := Option.map_eq_some_iff.1 hl
  obtain ⟨a, rfl, rfl, ha⟩ := qk5 _ _ _ h0
  obtain ⟨b, rfl, rfl, hb⟩ := qk5 _ _ _ h1
  refine ⟨a, b, ?_, rfl, ha, hb⟩
  rw [pv, ← Array.toArray_toList (xs := cs), hcs]
 | [] => rw [← Array.length_toList, hcs] at hf; simp at hf
 | [_] => rw [← Array.length_toList, hcs] at hf; simp at hf
 | _ :: _ :: _ :: _ => rw [← Array.length_toList, hcs] at hf; simp at hf
theorem qi8 {a b c d : Int} (ha : i64w a) (hb : i64w b) (hc : i64w c) (hd : i64w d) (h : pk a b = pk c d) : a = c ∧ b = d := by
 have h1 := qfn ha hb
 rw [h] at h1
 have := qmk.inj h1 (qfn hc hd)
 simp [pv] at this
 exact this
def hz : Nat → (Nat → Int) → Int
 | 0, _ => 0
 | m + 1, g => hz m g + g m
theorem J3 {f g : Nat → Int} : ∀ m, (∀ i, i < m → f i = g i) → hz m f = hz m g
 | 0, _ => rfl
 | m + 1, h => by rw [hz, hz, J3 m fun i hi => h i (by omega), h m (by omega)]
theorem qc2 {f : Nat → Int} : ∀ m, (∀ i, i < m → f i = 0) → hz m f = 0
 | 0, _ => rfl
 | m + 1, h => by rw [hz, qc2 m fun i hi => h i (by omega), h m (by omega)]; rfl
theorem qjp {f g : Nat → Int} {k : Nat} {d : Int} : ∀ m, k < m → (∀ i, i < m → i ≠ k → g i = f i) → g k = f k + d → hz m g = hz m f + d
 | 0, h, _, _ => by omega
 | m + 1, h, h1, h2 => by
  rw [hz, hz]
  by_cases e : k = m
  ·subst e
   rw [J3 (f := g) (g := f) k fun i hi => h1 i (by omega) (by omega), h2]; omega
  ·rw [qjp m (by omega) (fun i hi => h1 i (by omega)) h2, h1 m (by omega) (by omega)]; omega
def pS0 (F G : Nat → Nat → Int) (left : Lit → Bool) (i j : Nat) : Int := hz (i + 1) fun a => hz (j + 1) fun c => if left (pk a c) = true then 0 else F a c * G (i - a) (j - c)
def pT0 (G : Nat → Nat → Int) (x : Int) (e0 e1 : Nat) (left : Lit → Bool) (i j : Nat) : Int := if e0 ≤ i ∧ e1 ≤ j ∧ left (pk ((i - e0 : Nat) : Int) ((j - e1 : Nat) : Int)) = false then x * G (i - e0) (j - e1) else 0
def mulI (p : Int) (F G : Nat → Nat → Int) (i j : Nat) : Int := (hz (i + 1) fun a => hz (j + 1) fun c => F a c * G (i - a) (j - c)) % p
theorem qko (a b : Int) : (pk a b).sameKey (pk a b) = true := by simp [pk, Lit.sameKey]
theorem Jg {n : Nat} (h : n ≤ 1000000) : i64w (n : Int) := by
 unfold i64w
 simp [Lit.wf, IntKind.min, IntKind.max, IntKind.signed, IntKind.bits]; omega
theorem pk_ne {a b c d : Nat} (ha : a ≤ 1000) (hb : b ≤ 1000) (hc : c ≤ 1000) (hd : d ≤ 1000) (h : ¬ (a = c ∧ b = d)) : (pk (a : Int) b).sameKey (pk (c : Int) d) = false := by
 refine Go.Maps.sameKey_ne fun e => h ?_
 have := qi8 (Jg (by omega)) (Jg (by omega)) (Jg (by omega)) (Jg (by omega)) e
 omega
theorem qjm {F G : Nat → Nat → Int} {left : Lit → Bool} {e0 e1 i j : Nat} (hi : i ≤ 900) (hj : j ≤ 900) (h0 : e0 ≤ 900) (h1 : e1 ≤ 900) (hl : left (pk e0 e1) = true) : pS0 F G (fun z => left z && !z.sameKey (pk e0 e1)) i j = pS0 F G left i j + (if e0 ≤ i ∧ e1 ≤ j then F e0 e1 * G (i - e0) (j - e1) else 0) := by
 unfold pS0
 have other : ∀ a c : Nat, a ≤ i → c ≤ j → ¬ (a = e0 ∧ c = e1) → (if (left (pk a c) && !(pk (a : Int) c).sameKey (pk e0 e1)) = true then (0 : Int) else F a c * G (i - a) (j - c)) = if left (pk a c) = true then 0 else F a c * G (i - a) (j - c) := fun a c ha hc hn => by
  rw [pk_ne (by omega) (by omega) (by omega) (by omega) hn]; simp
 by_cases h : e0 ≤ i ∧ e1 ≤ j
 ·rw [if_pos h]
  refine qjp (k := e0) _ (by omega) (fun a ha hne => J3 _ fun c hc => other a c (by omega) (by omega) (by omega)) ?_
  refine qjp (k := e1) _ (by omega) (fun c hc hne => other e0 c (by omega) (by omega) (by omega)) ?_
  dsimp only
  simp only [qko, hl]; simp
 ·rw [if_neg h, Int.add_zero]
  exact J3 _ fun a ha => J3 _ fun c hc => other a c (by omega) (by omega) (by omega)
theorem qm2 {F G : Nat → Nat → Int} {left : Lit → Bool} (h : ∀ k, left k = false) (p : Int) (i j : Nat) : pS0 F G left i j % p = mulI p F G i j := by
 unfold pS0 mulI
 congr 1
 exact J3 _ fun a _ => J3 _ fun c _ => by rw [h]; simp
def Zy (w : World) (b n d : Nat) (F : Nat → Nat → Int) : Prop := ∃ D : DataW Unit, w.ownsMap Try.prog 108 (plainElem Try.prog 3) b n D ∧ (∀ a c, i64w a → i64w c → Go.Maps.has D (pk a c) = true → 0 ≤ a ∧ 0 ≤ c ∧ a + c ≤ (d : Int)) ∧ ∀ i j : Nat, i + j ≤ d → D.atKey (pk i j) (.lit (.int .i64 0)) = .lit (.int .i64 (F i j))
def qca (p : Int) (d : Nat) (F : Nat → Nat → Int) : Prop := ∀ i j, (0 ≤ F i j ∧ F i j < p) ∧ (d < i + j → F i j = 0)
theorem Z7 : Try.prog.underlying 107 = some (.map 108 3) := Try.underlying107
theorem qh6 (w : World) : (zeroValue 3).run Try.prog w = .ok (.int .i64 0) w := by kernel_rfl
theorem qkf (key : Value) (kl : Lit) (h : keyOf Try.prog 108 key = some kl) : ∃ x : Int × Int, key = pv x.1 x.2 := by
 obtain ⟨a, b, rfl, _⟩ := qm6 h
 exact ⟨(a, b), rfl⟩
theorem qla (v : Value) (y : DataW Unit × List MemPlace) (h : plainElem Try.prog 3 v = some y) : ∃ c : Int, v = .int .i64 c := by
 obtain ⟨c, rfl, _⟩ := plainElem_int_inv qa4 h
 exact ⟨c, rfl⟩
theorem qe4 {D : DataW Unit} {d : Nat} {F : Nat → Nat → Int} (hh : ∀ a c, i64w a → i64w c → Go.Maps.has D (pk a c) = true → 0 ≤ a ∧ 0 ≤ c ∧ a + c ≤ (d : Int)) (hv : ∀ i j : Nat, i + j ≤ d → D.atKey (pk i j) (.lit (.int .i64 0)) = .lit (.int .i64 (F i j))) {x : Int × Int} {c : Int} {kl : Lit} {y : DataW Unit × List MemPlace} (hk : keyOf Try.prog 108 (pv x.1 x.2) = some kl) (hy : plainElem Try.prog 3 (.int .i64 c) = some y) (hat : ∀ zd, D.atKey kl zd = y.1) : ∃ a b : Nat, x = ((a : Int), (b : Int)) ∧ kl = pk a b ∧ a + b ≤ d ∧ c = F a b := by
 obtain ⟨a, b, e, rfl, ha, hb⟩ := qm6 hk
 have e2 : x.1 = a ∧ x.2 = b := by simpa [pv] using e
 obtain ⟨c', ec, rfl, _⟩ := plainElem_int_inv qa4 hy
 cases ec
 have hhas := Go.Maps.has_true_of_atKey hat
 obtain ⟨h0, h1, h2⟩ := hh a b ha hb hhas
 obtain ⟨n, rfl⟩ := Int.eq_ofNat_of_zero_le h0
 obtain ⟨m, rfl⟩ := Int.eq_ofNat_of_zero_le h1
 refine ⟨n, m, Prod.ext e2.1 e2.2, rfl, by omega, ?_⟩
 have := hv n m (by omega)
 rw [hat] at this
 simpa using this
theorem qgh {D : DataW Unit} {d : Nat} {S : Nat → Nat → Int} (hm : Go.Maps.IsMap D) (hh : ∀ a c, i64w a → i64w c → Go.Maps.has D (pk a c) = true → 0 ≤ a ∧ 0 ≤ c ∧ a + c ≤ (d : Int)) (hv : ∀ i j : Nat, i + j ≤ d → D.atKey (pk i j) (.lit (.int .i64 0)) = .lit (.int .i64 (S i j))) {e f : Nat} (hef : e + f ≤ d) (hd : d ≤ 900) (v : Int) (z : DataW Unit) (hz : z = .lit (.int .i64 v)) :
  (∀ a c, i64w a → i64w c → Go.Maps.has (D.put (pk e f) z) (pk a c) = true → 0 ≤ a ∧ 0 ≤ c ∧ a + c ≤ (d : Int)) ∧ ∀ i j : Nat, i + j ≤ d → (D.put (pk e f) z).atKey (pk i j) (.lit (.int .i64 0)) = .lit (.int .i64 (if i = e ∧ j = f then v else S i j)) := by
 subst hz
 refine ⟨fun a c ha hc h => ?_, fun i j hij => ?_⟩
 ·by_cases e1 : pk a c = pk e f
  ·obtain ⟨rfl, rfl⟩ := qi8 ha hc (Jg (by omega)) (Jg (by omega)) e1
   omega
  ·rw [Go.Maps.has_put_other e1] at h
   exact hh a c ha hc h
 ·by_cases e1 : i = e ∧ j = f
  ·obtain ⟨rfl, rfl⟩ := e1
   rw [Go.Maps.atKey_put_same hm (show WideAt.IsKeyLit (pk _ _) from trivial), if_pos ⟨rfl, rfl⟩]
  ·rw [if_neg e1, Go.Maps.atKey_put_other (fun h => e1 (by have := qi8 (Jg (by omega)) (Jg (by omega)) (Jg (by omega)) (Jg (by omega)) h; omega)), hv i j hij]
def tmS (p : Int) (F G : Nat → Nat → Int) (left1 : Lit → Bool) (e0 e1 : Nat) (left2 : Lit → Bool) (i j : Nat) : Int := (pS0 F G left1 i j + pT0 G (F e0 e1) e0 e1 left2 i j) % p
theorem qnt {p : Int} {F G : Nat → Nat → Int} {left1 left2 : Lit → Bool} {e0 e1 f0 f1 : Nat} {c : Int} (hl : left2 (pk f0 f1) = true) (hc : c = tmS p F G left1 e0 e1 left2 (e0 + f0) (e1 + f1)) :
  (c + F e0 e1 * G f0 f1) % p = tmS p F G left1 e0 e1 (fun z => left2 z && !z.sameKey (pk f0 f1)) (e0 + f0) (e1 + f1) := by
 subst hc
 unfold tmS pT0
 rw [Int.emod_add_emod, if_neg (by rw [Nat.add_sub_cancel_left, Nat.add_sub_cancel_left, hl]; simp), if_pos (by refine ⟨by omega, by omega, ?_⟩; rw [Nat.add_sub_cancel_left, Nat.add_sub_cancel_left]; simp [qko])]
 rw [Nat.add_sub_cancel_left, Nat.add_sub_cancel_left]
 congr 1; omega
theorem ql0 {p : Int} {F G : Nat → Nat → Int} {left1 left2 : Lit → Bool} {e0 e1 f0 f1 i j : Nat} (hi : i ≤ 900) (hj : j ≤ 900) (hf : f0 ≤ 900 ∧ f1 ≤ 900) (h : ¬ (i = e0 + f0 ∧ j = e1 + f1)) :
  tmS p F G left1 e0 e1 left2 i j = tmS p F G left1 e0 e1 (fun z => left2 z && !z.sameKey (pk f0 f1)) i j := by
 unfold tmS pT0
 by_cases h1 : e0 ≤ i ∧ e1 ≤ j
 ·have : (pk ((i - e0 : Nat) : Int) ((j - e1 : Nat) : Int)).sameKey (pk (f0 : Int) f1) = false := pk_ne (by omega) (by omega) (by omega) (by omega) (by omega)
  simp only [this, Bool.not_false, Bool.and_true]
 ·rw [if_neg (by omega), if_neg (by omega)]
theorem qiv {D : DataW Unit} {d : Nat} {F : Nat → Nat → Int} {p : Int} (hv : ∀ i j : Nat, i + j ≤ d → D.atKey (pk i j) (.lit (.int .i64 0)) = .lit (.int .i64 (F i j))) (hf : qca p d F) {i j : Nat} (h : Go.Maps.has D (pk i j) = false) : F i j = 0 := by
 by_cases hd : i + j ≤ d
 ·have e := hv i j hd
  rw [Go.Maps.atKey_of_not_has h] at e
  injection e with e; injection e with _ e; exact e.symm
 ·exact (hf i j).2 (by omega)
theorem qlu {D : DataW Unit} {d : Nat} {p : Int} {F G : Nat → Nat → Int} {left1 : Lit → Bool} {e0 e1 : Nat} (hv : ∀ i j : Nat, i + j ≤ d → D.atKey (pk i j) (.lit (.int .i64 0)) = .lit (.int .i64 (G i j))) (hf : qca p d G) (i j : Nat) :
  pS0 F G left1 i j % p = tmS p F G left1 e0 e1 (Go.Maps.has D) i j := by
 unfold tmS pT0
 split
 ·next h => rw [qiv hv hf h.2.2, Int.mul_zero, Int.add_zero]
 ·rw [Int.add_zero]
theorem qmf {D : DataW Unit} {d : Nat} {p : Int} {F G : Nat → Nat → Int} (hv : ∀ i j : Nat, i + j ≤ d → D.atKey (pk i j) (.lit (.int .i64 0)) = .lit (.int .i64 (F i j))) (hf : qca p d F) (i j : Nat) : pS0 F G (Go.Maps.has D) i j = 0 := by
 unfold pS0
 refine qc2 _ fun a _ => qc2 _ fun c _ => ?_
 split
 ·rfl
 ·next h => rw [qiv hv hf (by simpa using h), Int.zero_mul]
theorem qn8 {p : Int} {F G : Nat → Nat → Int} {left1 left2 : Lit → Bool} {e0 e1 i j : Nat} (hi : i ≤ 900) (hj : j ≤ 900) (h0 : e0 ≤ 900) (h1 : e1 ≤ 900) (hl : left1 (pk e0 e1) = true) (hl2 : ∀ k, left2 k = false) :
  tmS p F G left1 e0 e1 left2 i j = pS0 F G (fun z => left1 z && !z.sameKey (pk e0 e1)) i j % p := by
 rw [qjm hi hj h0 h1 hl]
 unfold tmS pT0
 congr 2
 by_cases h : e0 ≤ i ∧ e1 ≤ j
 ·rw [if_pos ⟨h.1, h.2, hl2 _⟩, if_pos h]
 ·rw [if_neg (fun x => h ⟨x.1, x.2.1⟩), if_neg h]
theorem tm_cnt {cnt cnt1 s t n : Nat} (h : cnt1 < cnt) (h2 : cnt ≤ s) (h3 : t ≤ n) : (s - cnt) * n + t ≤ (s - cnt1) * n := by
 have e : s - cnt1 = (s - cnt) + (cnt - cnt1 - 1) + 1 := by omega
 rw [e, Nat.add_mul, Nat.add_mul, Nat.one_mul]
 omega
theorem tm_max {a n t s : Nat} (h : a ≤ 1000) (hn : n ≤ 1000) (h3 : t ≤ n) : (a - s) * n + t < maxLen := by
 have : (a - s) * n ≤ 1000 * 1000 := Nat.mul_le_mul (by omega) hn
 have : (1002000 : Nat) < maxLen := by decide
 omega
def Qx.T9 : Bool × List (List Nat × List Nat) := (true, [([], []), ([], []), ([], []), ([], []), ([2, 3], [2, 3]), ([], []), ([], []), ([5, 6], [5, 6]), ([4, 7], [4, 7]), ([], []), ([8, 9], [8, 9]), ([0, 1, 10, 0, 1, 2, 3, 4, 5, 6, 7, 8, 9, 10], [0, 1, 10])])
def Qx.B9 : List Nat := [0, 0, 0, 0, 12, 0, 0, 96, 252, 0, 1020, 2047]
theorem Qx.tab9 : rtab .any (Zu Try.f115 9) = Qx.T9 := by kernel_rfl
theorem Qx.bits9 : Qe Qx.T9.2 Qx.B9 = true := by kernel_rfl
theorem qdq {H : Type} {P : Program} {k : TypeId} {R : Value → Option (DataW H × List MemPlace)} {w : World} {b r n : Nat} {D : DataW H} {left : Lit → Bool} {cnt : Nat} (h : w.ranges P k R b r n D left cnt) : w.drew.ranges P k R b r n D left cnt := h
theorem tm_mod {p c x y : Int} (hp : 7 ≤ p ∧ p ≤ 31) (hc : 0 ≤ c ∧ c < p) (hx : 0 ≤ x ∧ x < p) (hy : 0 ≤ y ∧ y < p) : Int.tmod (wrap64 (c + wrap64 (x * y))) p = (c + x * y) % p := by
 have h0 : 0 ≤ x * y := Int.mul_nonneg hx.1 hy.1
 have h1 : x * y ≤ 31 * 31 := Int.mul_le_mul (by omega) (by omega) hy.1 (by omega)
 have e : wrap64 (x * y) = x * y := by unfold wrap64; omega
 rw [e, show wrap64 (c + x * y) = c + x * y by unfold wrap64; omega, Int.tmod_eq_emod_of_nonneg (by omega)]
set_option maxHeartbeats 4000000 in
set_option maxRecDepth 100000 in
theorem Qx.calls (p : Int) (b1 n1 d1 : Nat) (F1 : Nat → Nat → Int) (b2 n2 d2 : Nat) (F2 : Nat → Nat → Int) (w : World) (hp : 7 ≤ p ∧ p ≤ 31) (hm1 : Zy w b1 n1 d1 F1) (hf1 : qca p d1 F1) (hm2 : Zy w b2 n2 d2 F2) (hf2 : qca p d2 F2) (hd : d1 + d2 ≤ 9) (hn1 : n1 ≤ 1000) (hn2 : n2 ≤ 1000) :
  Calls Try.prog 115 #[.map (some b1), .map (some b2), .int .i64 p] w fun e w' => ∃ b, e = .returned (.map (some b)) ∧ w.heap.size ≤ b ∧ Zy w' b (n1 * n2) (d1 + d2) (mulI p F1 F2) ∧ Below w.heap.size w w' := by
 obtain ⟨D1, ho1, hh1, hv1⟩ := hm1
 obtain ⟨D2, ho2, hh2, hv2⟩ := hm2
 have hmm := @run_makeMap Try.prog
 have hb1 := ho1.lt
 have hb2 := ho2.lt
 have e1 : (w.alloc (.map #[] 0)).heap.size = w.heap.size + 1 := by simp
 have hu108 := J1
 go_enter Try.func115, Try.ntmps115
 go_wp2_with (first
  | (at_range; refine wpList_range_own _ rfl _ 107 rfl 108 3 Jl Z7 _ b1 n1 _ rfl (ho1.alloc _) ?_; intro w0 hrg0 hg0 hs0)
  | go_in)
 go_frame
 rw [e1] at hrg0 hs0 ⊢
 go_loopw [16] (fun _ wr => ∃ (left : Lit → Bool) (cnt : Nat) (Do : DataW Unit), wr.ranges Try.prog 108 (plainElem Try.prog 3) b1 (w.heap.size + 1) n1 D1 left cnt ∧ cnt ≤ Maps.size D1 ∧
   wr.ownsMap Try.prog 108 (plainElem Try.prog 3) w.heap.size ((Maps.size D1 - cnt) * n2) Do ∧ (∀ a c, i64w a → i64w c → Go.Maps.has Do (pk a c) = true → 0 ≤ a ∧ 0 ≤ c ∧ a + c ≤ ((d1 + d2 : Nat) : Int)) ∧ (∀ i j : Nat, i + j ≤ d1 + d2 → Do.atKey (pk i j) (.lit (.int .i64 0)) = .lit (.int .i64 (pS0 F1 F2 left i j % p))) ∧
   wr.ownsMap Try.prog 108 (plainElem Try.prog 3) b2 n2 D2 ∧ Below w.heap.size w wr)
  (fun _ wr => wr.rangeLeft b1 (w.heap.size + 1))
 case atStart =>
  refine ⟨_, _, .map [], hrg0, Nat.le_refl _, ((World.ownsMap_made _ _ _ _).kept hg0 (by simp)).mono (Nat.zero_le _), fun a c _ _ h => (by simp [Go.Maps.has] at h), fun i j _ => ?_, (ho2.alloc _).kept hg0 (by simp), ((Below.refl _ _).alloc (Nat.le_refl _) _).grown hg0 (by simp) (fun j hj => by cases hj)⟩
  rw [qmf hv1 hf1]; rfl
 case round =>
  obtain ⟨left, cnt, Do, hrg, hcs, hout, hho, hvo, ho2, hnx⟩ := hrel
  go_wp2_with (first
   | (at_next; refine wpList_next_ranges _ rfl _ rfl 108 Jl _ (fun x : Int × Int => pv x.1 x.2) (fun c : Int => Value.int .i64 c) qkf qla b1 (w.heap.size + 1) n1 _ _ _ rfl hrg ?_ ?_)
   | go_in)
  ·intro hc0 hl0
   go_wp2; go_ret
   exact ⟨w.heap.size, rfl, Nat.le_refl _, ⟨Do, hout.mono (by rw [hc0, Nat.sub_zero]; exact Nat.mul_le_mul ho1.size_le (Nat.le_refl _)), hho, fun i j hij => by rw [hvo i j hij, qm2 hl0]⟩, hnx⟩
  ·intro x0 x1 c kl zd zps w1 cnt1 hkx hlx hyc hat hrg1 hlt hg1 hs1 hen
   obtain ⟨e0, e1, hx, rfl, hle, rfl⟩ := qe4 (x := (x0, x1)) (y := (zd, zps)) hh1 hv1 hkx hyc hat
   cases hx
   have hout1 := hout.kept hg1 (by simp)
   have ho21 := ho2.kept hg1 (by simp; omega)
   have hnx1 := hnx.grown hg1 hnx.size (fun j hj => by cases hj; exact Nat.le_succ _)
   clear hout ho2 hnx
   unfold pv at hen ⊢
   have hXn : (w1.alloc (Obj.cells #[Value.int IntKind.i64 ↑e0, Value.int IntKind.i64 ↑e1] 108)).heap[w1.heap.size]? = some (.cells #[Value.int IntKind.i64 ↑e0, Value.int IntKind.i64 ↑e1] 108 (0, 0)) := heap_alloc_last w1 _
   have hs3 : (w1.alloc (Obj.cells #[Value.int IntKind.i64 ↑e0, Value.int IntKind.i64 ↑e1] 108)).heap.size = wr.heap.size + 1 := by simp [hs1]
   rw [hs1] at hXn
   go_wp2_with (first
    | (at_range; refine wpList_range_own _ rfl _ 107 rfl 108 3 Jl Z7 _ b2 n2 _ rfl (ho21.alloc _) ?_; intro w2 hrg2 hg2 hs2)
    | go_in)
   go_frame
   rw [hs3] at hrg2 hs2 ⊢
   have hX2 := (hg2.block wr.heap.size (by rw [hs3]; exact Nat.lt_succ_self _) (by simp)).trans hXn
   have hrg12 := (hrg1.alloc (Obj.cells #[Value.int IntKind.i64 ↑e0, Value.int IntKind.i64 ↑e1] 108)).kept hg2 (by simp) (by simp)
   have hout2 := (hout1.alloc (Obj.cells #[Value.int IntKind.i64 ↑e0, Value.int IntKind.i64 ↑e1] 108)).kept hg2 (by simp)
   have hnx2 := (hnx1.alloc (by have := hnx1.size; omega) (Obj.cells #[Value.int IntKind.i64 ↑e0, Value.int IntKind.i64 ↑e1] 108)).grown hg2 (by simp; have := hnx1.size; omega) (fun j hj => by cases hj)
   have hbase := hnx1.size
   have hgl := hrg.lt
   have hle0 := hrg.left_eq
   rw [hs1] at hbase
   generalize hgi : wr.heap.size = gi at *
   clear hXn hg2 ho21 hout1 hnx1 hg1 hrg hen hs3
   go_loopw [24] (fun _ v => ∃ (left2 : Lit → Bool) (cnt2 : Nat) (Di : DataW Unit), v.ranges Try.prog 108 (plainElem Try.prog 3) b2 (gi + 1) n2 D2 left2 cnt2 ∧ cnt2 ≤ Maps.size D2 ∧
     v.ownsMap Try.prog 108 (plainElem Try.prog 3) w.heap.size ((Maps.size D1 - cnt) * n2 + (Maps.size D2 - cnt2)) Di ∧ (∀ a c, i64w a → i64w c → Go.Maps.has Di (pk a c) = true → 0 ≤ a ∧ 0 ≤ c ∧ a + c ≤ ((d1 + d2 : Nat) : Int)) ∧ (∀ i j : Nat, i + j ≤ d1 + d2 → Di.atKey (pk i j) (.lit (.int .i64 0)) = .lit (.int .i64 (tmS p F1 F2 left e0 e1 left2 i j))) ∧
     v.ranges Try.prog 108 (plainElem Try.prog 3) b1 (w.heap.size + 1) n1 D1 (fun z => left z && !z.sameKey (pk ↑e0 ↑e1)) cnt1 ∧ v.heap[gi]? = some (.cells #[Value.int IntKind.i64 ↑e0, Value.int IntKind.i64 ↑e1] 108 (0, 0)) ∧ gi + 2 ≤ v.heap.size ∧ Below w.heap.size w v)
    (fun _ v => v.rangeLeft b2 (gi + 1))
   case atStart =>
    refine ⟨_, _, Do, hrg2, Nat.le_refl _, hout2.mono (by omega), hho, fun i j hij => ?_, hrg12, hX2, by omega, hnx2⟩
    rw [hvo i j hij, qlu hv2 hf2]
   case round =>
    clear hrg2 hout2 hho hvo hrg12 hX2 hnx2
    obtain ⟨left2, cnt2, Di, hrg2, hcs2, houti, hhoi, hvoi, hrg12, hXi, hgs, hnxi⟩ := hrel
    go_wp2_with (first
     | (at_next; refine wpList_next_ranges _ rfl _ rfl 108 Jl _ (fun x : Int × Int => pv x.1 x.2) (fun c : Int => Value.int .i64 c) qkf qla b2 (gi + 1) n2 _ _ _ rfl hrg2 ?_ ?_)
     | go_in)
    ·intro hc0 hl0
     go_wp2
     go_roundw
     case rel =>
      refine ⟨_, cnt1, Di, hrg12, by omega, houti.mono (by rw [hc0, Nat.sub_zero]; exact tm_cnt hlt hcs ho2.size_le), hhoi, fun i j hij => ?_, hrg2.owns, hnxi⟩
      rw [hvoi i j hij, qn8 (by omega) (by omega) (by omega) (by omega) hlx hl0]
     case measure => rw [hrg12.left_eq, hle0]; exact hlt
    ·intro x0 x1 c kl zd zps w3 cnt3 hky hly hyc2 hat2 hrg3 hlt3 hg3 hs3 hen3
     obtain ⟨f0, f1, hx, rfl, hle2, rfl⟩ := qe4 (x := (x0, x1)) (y := (zd, zps)) hh2 hv2 hky hyc2 hat2
     cases hx
     unfold pv at hen3 ⊢
     have hout3 := houti.kept hg3 (by simp; omega)
     have hrg13 := hrg12.kept hg3 (by simp; omega) (by simp; omega)
     have hX3 := (hg3.block gi (by omega) (by simp)).trans hXi
     have hnx3 := hnxi.grown hg3 hnxi.size (fun j hj => by cases hj; show w.heap.size ≤ gi + 1; omega)
     have hX4 : (w3.alloc (Obj.cells #[Value.int IntKind.i64 ↑f0, Value.int IntKind.i64 ↑f1] 108)).heap[gi]? = some (.cells #[Value.int IntKind.i64 ↑e0, Value.int IntKind.i64 ↑e1] 108 (0, 0)) := (by rw [Below.heap_alloc _ _ _ (by rw [hs3]; omega)]; exact hX3)
     have c0 := cell_of_row _ gi 0 _ _ _ hX4
     have c1 := cell_of_row _ gi 1 _ _ _ hX4
     replace c0 : _ = some (Value.int .i64 e0) := c0
     replace c1 : _ = some (Value.int .i64 e1) := c1
     go_wp2
     have hs4 : (w3.alloc (Obj.cells #[Value.int IntKind.i64 ↑f0, Value.int IntKind.i64 ↑f1] 108)).heap.size = wr.heap.size + 1 := by simp [hs3]
     have hkk := heap_alloc_last (w3.alloc (Obj.cells #[Value.int IntKind.i64 ↑f0, Value.int IntKind.i64 ↑f1] 108)) (.cells #[Value.int IntKind.i64 (↑e0 + ↑f0), Value.int IntKind.i64 (↑e1 + ↑f1)] 108)
     rw [hs4] at hkk
     generalize hA0 : (e0 : Int) + f0 = A0 at hkk ⊢
     generalize hA1 : (e1 : Int) + f1 = A1 at hkk ⊢
     have hkey : keyOf Try.prog 108 (.agg #[.int .i64 A0, .int .i64 A1]) = some (pk ((e0 + f0 : Nat) : Int) ((e1 + f1 : Nat) : Int)) := by subst hA0 hA1; have := qfn (a := ((e0 + f0 : Nat) : Int)) (b := ((e1 + f1 : Nat) : Int)) (Jg (by omega)) (Jg (by omega)); rw [Int.natCast_add, Int.natCast_add] at this ⊢; exact this
     clear hA0 hA1
     have hout4 := (hout3.alloc (.cells #[Value.int IntKind.i64 ↑f0, Value.int IntKind.i64 ↑f1] 108)).alloc (.cells #[Value.int IntKind.i64 A0, Value.int IntKind.i64 A1] 108)
     have hrg4 := (hrg3.alloc (.cells #[Value.int IntKind.i64 ↑f0, Value.int IntKind.i64 ↑f1] 108)).alloc (.cells #[Value.int IntKind.i64 A0, Value.int IntKind.i64 A1] 108)
     have hrg14 := (hrg13.alloc (.cells #[Value.int IntKind.i64 ↑f0, Value.int IntKind.i64 ↑f1] 108)).alloc (.cells #[Value.int IntKind.i64 A0, Value.int IntKind.i64 A1] 108)
     have hX5 : ((w3.alloc (Obj.cells #[Value.int IntKind.i64 ↑f0, Value.int IntKind.i64 ↑f1] 108)).alloc (.cells #[Value.int IntKind.i64 A0, Value.int IntKind.i64 A1] 108)).heap[gi]? = some (.cells #[Value.int IntKind.i64 ↑e0, Value.int IntKind.i64 ↑e1] 108 (0, 0)) := (by rw [Below.heap_alloc _ _ _ (by rw [hs4]; omega)]; exact hX4)
     have hnx5 := (hnx3.alloc (by have := hnx3.size; omega) (.cells #[Value.int IntKind.i64 ↑f0, Value.int IntKind.i64 ↑f1] 108)).alloc (by rw [hs4]; omega) (.cells #[Value.int IntKind.i64 A0, Value.int IntKind.i64 A1] 108)
     have hsz5 : wr.heap.size + 2 ≤ ((w3.alloc (Obj.cells #[Value.int IntKind.i64 ↑f0, Value.int IntKind.i64 ↑f1] 108)).alloc (.cells #[Value.int IntKind.i64 A0, Value.int IntKind.i64 A1] 108)).heap.size := by simp [hs3]
     have k0 := cell_of_row _ (wr.heap.size + 1) 0 _ _ _ hkk
     have k1 := cell_of_row _ (wr.heap.size + 1) 1 _ _ _ hkk
     replace k0 : _ = some (Value.int .i64 A0) := k0
     replace k1 : _ = some (Value.int .i64 A1) := k1
     generalize (w3.alloc (Obj.cells #[Value.int IntKind.i64 ↑f0, Value.int IntKind.i64 ↑f1] 108)).alloc (.cells #[Value.int IntKind.i64 A0, Value.int IntKind.i64 A1] 108) = w5 at hout4 hrg4 hrg14 hX5 hnx5 k0 k1 hsz5 ⊢
     obtain ⟨c, hlr, hcat, hcw⟩ := hout4.drew.lookup_int Jl Z7 qa4 (qh6 _) hkey
     clear hkk
     have hp0 : (p = 0) = False := eq_false (by omega)
     refine st 12 (fun v => v.cell? ⟨wr.heap.size + 1, 0, none⟩ = some (.int .i64 A0) ∧ v.cell? ⟨wr.heap.size + 1, 1, none⟩ = some (.int .i64 A1) ∧ (Instr.lookup 107 (.map (some w.heap.size)) (.agg #[.int .i64 A0, .int .i64 A1]) false).run Try.prog v = .ok (.int .i64 c) v) [11] Qx.tab9 Qx.bits9 ⟨k0, k1, hlr⟩ fun hHeld HT_ HW_ => ?_
     refine pz 0 39 HT_ ?_; refine tk 1 40 HT_ HW_ hHeld ?_; refine pz 2 41 HT_ ?_; refine tk 3 42 HT_ HW_ hHeld ?_; refine tk 4 43 HT_ HW_ hHeld ?_; refine pz 5 44 HT_ ?_; refine pz 6 45 HT_ ?_; refine pz 7 46 HT_ ?_; refine pz 8 47 HT_ ?_; refine pz 9 48 HT_ ?_; refine pz 10 49 HT_ ?_
     have hc2 : c = tmS p F1 F2 left e0 e1 left2 (e0 + f0) (e1 + f1) := by
      have := hvoi (e0 + f0) (e1 + f1) (by omega)
      rw [hcat] at this
      injection this with this; injection this
     have hcr : 0 ≤ c ∧ c < p := by rw [hc2]; exact ⟨Int.emod_nonneg _ (by omega), Int.emod_lt_of_pos _ (by omega)⟩
     have hV := tm_mod hp hcr (hf1 e0 e1).1 (hf2 f0 f1).1
     rw [qnt hly hc2] at hV
     have hVr : 0 ≤ tmS p F1 F2 left e0 e1 (fun z => left2 z && !z.sameKey (pk f0 f1)) (e0 + f0) (e1 + f1) ∧ tmS p F1 F2 left e0 e1 (fun z => left2 z && !z.sameKey (pk f0 f1)) (e0 + f0) (e1 + f1) < p := ⟨Int.emod_nonneg _ (by omega), Int.emod_lt_of_pos _ (by omega)⟩
     generalize hVe : Int.tmod (wrap64 (c + wrap64 (F1 e0 e1 * F2 f0 f1))) p = V at hV ⊢
     clear hVe
     obtain ⟨w6, hrun6, hout6, hg6⟩ := hout4.drew.update Jl Z7 (tm_max (a := Maps.size D1) (n := n2) (s := cnt) (t := Maps.size D2 - cnt2) (by have := ho1.size_le; omega) hn2 (by have := ho2.size_le; omega)) hkey (plainElem_int qa4 (a := V) (by rw [hV]; obtain ⟨m, hm⟩ := Int.eq_ofNat_of_zero_le hVr.1; rw [hm] at hVr ⊢; exact Jg (by omega)))
     have HV := am hV
     have HCAT := am hcat
     clear hV hVr hc2 hcr hcat
     refine la 11 none HT_ fun K hK => ?_
     refine qb6 (w1 := w6) (by rfl) rfl (by go_simp) ?_
     refine hK.out _ _ ?_
     clear hK K
     refine Q8 (Qj HT_.out (by kernel_rfl)) ?_
     try go_wp2
     have hput := qgh hout4.isMap hhoi hvoi (e := e0 + f0) (f := e1 + f1) (by omega) (by omega) V _ rfl
     have hrg6 := (qdq hrg4).kept hg6 (by simp; omega) (by simp; omega)
     have hnx6 := (qx hnx5).grown hg6 (by have := hnx5.size; exact this) (fun j hj => by cases hj; exact Nat.le_refl _)
     go_roundw
     case rel =>
      refine ⟨_, cnt3, _, hrg6, by omega, hout6.mono (by omega), hput.1, fun i j hij => ?_, (qdq hrg14).kept hg6 (by simp; omega) (by simp), (hg6.block gi (show gi < w5.heap.size by omega) (by simp; omega)).trans hX5, ?_, hnx6⟩
      ·rw [hput.2 i j hij]
       by_cases hij2 : i = e0 + f0 ∧ j = e1 + f1
       ·rw [if_pos hij2, hij2.1, hij2.2, HV.out]
       ·rw [if_neg hij2, ql0 (by omega) (by omega) ⟨by omega, by omega⟩ hij2]
      ·have : w5.heap.size ≤ w6.heap.size := hg6.size
       omega
     case measure => rw [hrg6.left_eq, hrg2.left_eq]; exact hlt3
end Go.Proofs.Ytmgbpmihbljngaa.PA
