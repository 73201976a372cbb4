-- Written by lawpts.py, a program of this claim's own
import Derived.Test.YtmgbpmihbljngaaGreatRows
import Derived.Test.YtmgbpmihbljngaaGreatPureFnExactSurfaceStars
import Derived.ProofKit
import Derived.OpenShut
import Derived.ShutString
import Derived.SizedLaws
import Derived.Deep.Slices
namespace Go.Proofs.YtmgbpmihbljngaaGreat.fnExactSurfaceStars
open Go.ChangeShapes Go.WideShapes Go.ChangeAt Go.RowKit Go.Proofs.YtmgbpmihbljngaaGreat.PA Go.Proofs.YtmgbpmihbljngaaGreatW.PrintWords Go.Proofs.YtmgbpmihbljngaaGreatW.PrintLast Go.Proofs.YtmgbpmihbljngaaGreatW.PrintMore
set_option linter.unusedVariables false
set_option linter.unusedSimpArgs false
theorem own : ownKnob Tryz.prog.godebug = none := by kernel_rfl
theorem qvp : laidOutB Tryz.prog = true := by kernel_rfl
theorem quc : Tryz.prog.cellsOf 53 = 3 := by kernel_rfl
theorem qtj : Tryz.prog.cellsOf 49 = 3 := by kernel_rfl
theorem qsb : Tryz.prog.cellsOf 3 = 1 := by kernel_rfl
theorem qvi (a : Addr) (i j : Nat) : (a.add i).add j = a.add (i + j) := by
  unfold Addr.add
  by_cases hi : i = 0 <;> by_cases hj : j = 0 <;> simp [hi, hj, Nat.add_assoc]
set_option maxRecDepth 100000 in
theorem qsw {H : Type} {enc : TypeId × Value->H} {W : World} {base : Nat} {sp : Nat->Bool} {held : Bool} {fuel len cap : Nat} {a : Option Addr} {x : DataW H × List MemPlace} (h : DataW.trod enc Tryz.prog W base sp held fuel 22 [.slice a len cap] = some x) :
    ∃ l : List S53, l.length = len/\Kd.C k53 W a len l/\len<=cap/\cap<=maxLen := by
  rcases Go.Deep.open_slice Tryz.underlying22 h with ⟨hcs, _⟩|⟨y, n, c, m, q, D, Pl, hcs, _, hl, hm, hmm, _, hx⟩
  · simp only [List.cons.injEq, Value.slice.injEq, and_true] at hcs
    obtain ⟨rfl, rfl, rfl⟩ := hcs
    exact ⟨[], rfl, Kd.C_nil _ _, Nat.le_refl _, Nat.zero_le _⟩
  · simp only [List.cons.injEq, Value.slice.injEq, and_true] at hcs
    obtain ⟨rfl, rfl, rfl⟩ := hcs
    have hle : len<=m := by rw [hmm]; split <;> omega
    have each : ∀ i, i < len->∃ z : S53, ∀ j u, ([.int .i64 z.f0.f0, .int .i64 z.f0.f1, .int .i64 z.f0.f2] : List Value)[j]? = some u->W.cell? (y.add (i * 3 + j)) = some u := λi hi => by
      obtain ⟨cs, h1, h2⟩ := hx i (by omega)
      rw [quc] at h1
      obtain ⟨_, hlen, hcell⟩ := World.cells?_some h1
      obtain ⟨xs, k, rfl, _, _, hxl, hf⟩ := DataW.trod_struct Tryz.underlying53 h2
      obtain ⟨y0, rfl⟩ := List.length_eq_one_iff.1 (show xs.length = 1 from hxl)
      obtain ⟨v0, v1, v2, rfl⟩ : ∃ v0 v1 v2, cs = [v0, v1, v2] := by match cs, hlen with|[v0, v1, v2], _ => exact ⟨v0, v1, v2, rfl⟩
      have g0 := hf 0 _ rfl
      have g1 : DataW.trod enc Tryz.prog W base sp held k 49 [v0, v1, v2] = some y0 := by simpa [qtj] using g0
      obtain ⟨zs, m2, rfl, _, _, hzl, hz⟩ := DataW.trod_array Tryz.underlying49 g1
      obtain ⟨z0, z1, z2, rfl⟩ : ∃ z0 z1 z2, zs = [z0, z1, z2] := by match zs, hzl with|[z0, z1, z2], _ => exact ⟨z0, z1, z2, rfl⟩
      have b0 := hz 0 (by omega)
      have b1 := hz 1 (by omega)
      have b2 := hz 2 (by omega)
      rw [qsb] at b0 b1 b2
      obtain ⟨i0, e0, _, _⟩ := DataW.trod_int Tryz.underlying3 (show DataW.trod enc Tryz.prog W base sp held m2 3 [v0] = some z0 from b0)
      obtain ⟨i1, e1, _, _⟩ := DataW.trod_int Tryz.underlying3 (show DataW.trod enc Tryz.prog W base sp held m2 3 [v1] = some z1 from b1)
      obtain ⟨i2, e2, _, _⟩ := DataW.trod_int Tryz.underlying3 (show DataW.trod enc Tryz.prog W base sp held m2 3 [v2] = some z2 from b2)
      have c0 := hcell 0 (by omega)
      have c1 := hcell 1 (by omega)
      have c2 := hcell 2 (by omega)
      rw [qvi] at c0 c1 c2
      refine ⟨⟨⟨i0, i1, i2⟩⟩, λj u hu => ?_⟩
      rcases (show j = 0\/j = 1\/j = 2\/3<=j by omega) with rfl|rfl|rfl|hj
      · rw [c0]; exact (congrArg some (List.cons.inj e0).1).trans hu
      · rw [c1]; exact (congrArg some (List.cons.inj e1).1).trans hu
      · rw [c2]; exact (congrArg some (List.cons.inj e2).1).trans hu
      · rw [List.getElem?_eq_none (by simpa using hj)] at hu; cases hu
    obtain ⟨z, hz⟩ : ∃ z : Nat->S53, ∀ i, i < len->∀ j u, ([.int .i64 (z i).f0.f0, .int .i64 (z i).f0.f1, .int .i64 (z i).f0.f2] : List Value)[j]? = some u->W.cell? (y.add (i * 3 + j)) = some u :=
      ⟨λi => if hi : i < len then (each i hi).choose else z53, λi hi => by have h0 := (each i hi).choose_spec; simp only [dif_pos hi]; exact h0⟩
    refine ⟨(List.range len).map z, by simp, ⟨by simp, by have : maxLen<=9223372036854775807 := by decide
                                                          omega, λ_ => ⟨y, rfl, λj p hp => ?_⟩⟩, hl, hm⟩
    obtain ⟨hj, rfl⟩ : j < len/\z j = p := by
      rw [List.getElem?_map] at hp
      obtain ⟨q, hq, rfl⟩ := Option.map_eq_some_iff.1 hp
      obtain ⟨h3, h4⟩ := List.getElem?_eq_some_iff.1 hq
      rw [List.length_range] at h3
      rw [List.getElem_range] at h4
      exact ⟨h3, by rw [h4]⟩
    exact ⟨_, rfl, k53_mk W (z j), hz j hj⟩
set_option maxRecDepth 100000 in
theorem lifted (os : Os) (started : os.Started) (H : Type) (enc : TypeId × Value->H) :
    ReturnsInHanded {} Tryz.checked os 3 .any (Rows.fnExactSurfaceStarsSpec.pre6 enc Tryz.prog Tryz.f3 Rows.fnExactSurfaceStarsRow.domain false) (Rows.fnExactSurfaceStarsSpec.post enc Tryz.prog Tryz.f3 false true false false) := by
  refine returnsInHanded_of_change_sized (C := Tryz.checked) own started (by kernel_rfl) Tryz.func3
    (ChangeSpec.witness6 (enc := enc) (C := Tryz.checked) false ⟨#[], #[.int .i64 0, .slice none 0 0], []⟩ 8 (by kernel_rfl) (by kernel_rfl) (by kernel_rfl) (by kernel_rfl)) ?_
  intro W base args ds gs before hval0 hW hcnd hsz0 _
  have hsz : (DataW.weightsEach Tryz.prog (Tryz.f3.params.toList ++ Rows.fnExactSurfaceStarsSpec.plain.varTypes Tryz.prog) (ds ++ gs)).all (·<=reachBytes) = true := hsz0
  have hval : ∀ (j : Nat) t v, Tryz.f3.params[j]? = some t->args[j]? = some v->Value.okWide Tryz.prog W .any base t v := hval0
  have hW' := hW
  obtain ⟨p, q, hA0, hV, rfl, hfz, hnd⟩ := hW
  have hA : DataW.TrodAll enc Tryz.prog W 0 (λ_ => true) true Tryz.f3.params.toList args.toList ds p := hA0
  rw [Tryz.params3] at hA hval hsz
  obtain ⟨v0, vs0, d0, ds0, p0, q0, hargs, rfl, rfl, h0, r0⟩ := trodAll_cons hA
  obtain ⟨v1, vs1, d1, ds1, p1, q1, rfl, rfl, rfl, h1, r1⟩ := trodAll_cons r0
  obtain ⟨rfl, rfl, rfl⟩ := trodAll_nil r1
  obtain rfl : args = #[v0, v1] := by cases args; simp_all
  obtain ⟨rfl, rfl⟩ := trodVars_none hV
  obtain ⟨a0, rfl, rfl, rfl, w0⟩ := open_int Tryz.underlying3 (hval 0 3 v0 rfl rfl) h0
  obtain ⟨a1, len1, cap1, rfl⟩ := okWide_slice Tryz.underlying22 (hval 1 22 v1 rfl rfl)
  have k1 := h1
  have lt1 : ∀ x ∈ p1, x.block < W.heap.size := by obtain ⟨m, hm⟩ := k1; exact DataW.trod_lt m _ _ _ hm
  obtain ⟨l1, rfl, hr1, hc1, hm1⟩ := qsw h1.choose_spec
  clear hA0 hval0 hsz0 hsz
  obtain ⟨k, hk⟩ := Pure.FnExactSurfaceStars a0 l1 (Nat.le_trans hc1 hm1)
  refine (PA.laws_FnExactSurfaceStars.calls k a0 _ _ l1 true W hr1 hc1  hk).mono ?_
  rintro e W' ⟨rfl, bel⟩
  have bel := bel
  exact ⟨_, rfl, _, _, _, [], _, [], hW', trodAll_mk1 (shut_bool Tryz.underlying4 _), (trodAll_cons_mk (shut_int Tryz.underlying3 w0) (trodAll_cons_mk (Below.trod qvp (by kernel_rfl) (of_decide_eq_true (by kernel_rfl)) k1 bel lt1) trodAll_mk0)), rfl, bel.frame _, λh => by cases h⟩
theorem over : Rows.fnExactSurfaceStarsRow.holds Tryz.pinned (OpenSpec.ofChange Rows.fnExactSurfaceStarsSpec) :=
  OpenClaim.holds_of_wide 3 Tryz.f3 rfl rfl rfl rfl rfl rfl rfl ⟨rfl, rfl, rfl, rfl, rfl⟩ rfl rfl rfl rfl rfl (by kernel_rfl) Tryz.func3 (by kernel_rfl)
    (of_decide_eq_true (by kernel_rfl)) (by unfold Func.isWrapper; first|(rw [if_pos (by decide +kernel)]; kernel_rfl)|(rw [if_neg (by decide +kernel)]; exact ⟨rfl, rfl⟩))
    (λos started H enc _ => lifted os started H enc)
theorem proved : Rows.FnExactSurfaceStarsSaid := over
#print axioms proved
end Go.Proofs.YtmgbpmihbljngaaGreat.fnExactSurfaceStars
namespace Go.Proofs.YtmgbpmihbljngaaGreat
theorem fnExactSurfaceStars_holds : Rows.FnExactSurfaceStarsSaid := fnExactSurfaceStars.proved
end Go.Proofs.YtmgbpmihbljngaaGreat
