-- Written by xprint.py, a program of this claim's own (over the kit's print.py)
import Derived.Test.YtmgbpmihbljngaaPAx25
import Derived.Test.YtmgbpmihbljngaaPAx26
namespace Go.Proofs.Ytmgbpmihbljngaa.PA
set_option maxHeartbeats 8000000
set_option maxRecDepth 100000
open Go.RowKit Go.Proofs.YtmgbpmihbljngaaW.PrintWords Go.Proofs.YtmgbpmihbljngaaW.PrintLast Go.Proofs.YtmgbpmihbljngaaW.PrintMore
attribute [local go_sem] j9 j8 Qf Qg js jr j6 j7
set_option linter.unusedVariables false
set_option linter.unusedSimpArgs false
def je.f (k : Nat) (l0 : List Int) : Option (Int × (List (S43)) × List Int) := (Q4.f l0).bind fun bt615 => ((zn.f k bt615.1 bt615.2).bind fun bt618 => ((jg.f k bt615.1 bt618.2.2 bt618.1).bind fun bt623 => ((zi.f k bt618.1 bt618.2.1 bt623.1 bt623.2.1 bt623.2.2.1).bind fun bt627 => (if bt627.2 = true then ((qe.f k bt615.1 bt623.2.2.2 2).bind fun bt631 => (if bt631.1 = 0 then (some (bt618.1, bt618.2.1, bt627.1)) else ((jw.f k bt615.1 bt631.2 bt618.1).bind fun bt633 => (some (bt618.1, bt618.2.1, bt633.1))))) else ((jw.f k bt615.1 bt623.2.2.2 bt618.1).bind fun bt637 => (some (bt618.1, bt618.2.1, bt637.1)))))))
theorem je.mono : ∀ a0 k, LeO (je.f k a0) (je.f (k + 1) a0) := by
 intro a0 k
 unfold je.f
 repeat' first | (with_reducible first | apply zi.mono | apply qe.mono | apply jw.mono | apply jg.mono | apply zn.mono | exact LeO.refl _ | exact LeO.none _ | refine LeO.ite ?_ ?_ | refine LeO.bind ?_ (fun _ => ?_)) | (first | apply zi.mono | apply qe.mono | apply jw.mono | apply jg.mono | apply zn.mono | exact LeO.none _ | refine LeO.ite ?_ ?_ | refine LeO.bind ?_ (fun _ => ?_))
theorem je.calls (k : Nat) (A0 : Option Addr) (c0 : Nat) (l0 : List Int) (r1 : Int) (r2 : List (S43)) (r3 : List Int) (w : World) (hr0 : Kd.C (Kd.int .u8) w A0 l0.length l0) (hc0 : l0.length ≤ c0) (h : je.f k l0 = some (r1, r2, r3)) :
  Calls Try.prog 40 #[.slice A0 l0.length c0] w fun e w' => ∃ v1_ v2_ : Value, e = .returned (.tuple #[.int .i64 r1, v1_, v2_]) ∧ Kd.R k43 43 w' w.heap.size (fun _ => True) v1_ r2 ∧ Kd.R (Kd.int .i64) 3 w' w.heap.size (fun _ => True) v2_ r3 ∧ Below w.heap.size w w' := by
 have HR0 := am hr0
 have HC0 := am hc0
 clear hr0 hc0
 have HB := am (Below.refl w.heap.size w)
 have H : ((Q4.f l0).bind fun bt615 => ((zn.f k bt615.1 bt615.2).bind fun bt618 => ((jg.f k bt615.1 bt618.2.2 bt618.1).bind fun bt623 => ((zi.f k bt618.1 bt618.2.1 bt623.1 bt623.2.1 bt623.2.2.1).bind fun bt627 => (if bt627.2 = true then ((qe.f k bt615.1 bt623.2.2.2 2).bind fun bt631 => (if bt631.1 = 0 then (some (bt618.1, bt618.2.1, bt627.1)) else ((jw.f k bt615.1 bt631.2 bt618.1).bind fun bt633 => (some (bt618.1, bt618.2.1, bt633.1))))) else ((jw.f k bt615.1 bt623.2.2.2 bt618.1).bind fun bt637 => (some (bt618.1, bt618.2.1, bt637.1)))))))) = some (r1, r2, r3) := h
 clear h; replace H := bs H
 obtain ⟨⟨t615, t616⟩, A2, H⟩ := H
 dsimp only at H
 replace H := bs H
 obtain ⟨⟨t618, t619, t622⟩, A3, H⟩ := H
 dsimp only at H
 replace H := bs H
 obtain ⟨⟨t623, t624, t625, t626⟩, A4, H⟩ := H
 dsimp only at H
 replace H := bs H
 obtain ⟨⟨t627, t630⟩, A5, H⟩ := H
 dsimp only at H
 by_cases c6 : t630 = true
 ·subst c6
  rw [if_pos rfl] at H
  replace H := bs H
  obtain ⟨⟨t631, t632⟩, A7, H⟩ := H
  dsimp only at H
  by_cases c8 : t631 = 0
  ·rw [if_pos c8] at H
   have c8b0 := beq_iff_eq.mpr c8; have c8b1 := bne_eq_false_iff_eq.mpr c8; clear c8
   simp only [Option.some.injEq, Prod.mk.injEq] at H
   obtain ⟨rfl, rfl, rfl⟩ := H
   go_enter Try.func40, Try.ntmps40
   go_wp2_with (first | ((with_reducible refine qf (f := 69) rfl ?_); refine gl 11 Try.func69 #[.slice A0 l0.length c0] ?_; (with_reducible refine (Q4.calls _ _ l0 t615 t616 w _ ?_ ?_ ?_ A2.out).mono ?_); (· repeat (first | (with_reducible first | exact HB.out | apply q8 | apply qo | apply qx) | exact HB.out)); exact HR0.out; exact HC0.out; rintro e w9 ⟨g617, rfl, hi, hb, hb2⟩; refine ⟨_, rfl, ?_⟩; replace HB := am (hb); have HI617 := am (hi); (try clear hb); (try clear hb2); (try clear hi)) | ((with_reducible refine qf (f := 70) rfl ?_); refine gl 14 Try.func70 #[.pointer (some ⟨g617, 0, none⟩)] ?_; (with_reducible refine (zn.calls k g617 t615 t616 t618 t619 t622 w _ ?_ ?_ A3.out).mono ?_); (· repeat (first | (with_reducible first | exact HI617.out | apply IsS112.alloc | apply IsS112.drewN | apply IsS112.drew | apply IsS112.set_1) | exact HI617.out)); (· repeat (first | (with_reducible first | exact HB.out | apply q8 | apply qo | apply qx | refine zl ?_ (IsS112.ge HI617.out)) | exact HB.out)); rintro e w10 ⟨v620, rfl, ho0, hi, hb, hk⟩; refine ⟨_, rfl, ?_⟩; have HO621 := am (Kd.R_lower ho0 (zc (jt HB HI617))); replace HB := am (hb); replace HI617 := am (hi); (try clear hb); (try clear hk); (try clear hi); (try clear ho0)) | ((with_reducible refine qf (f := 72) rfl ?_); refine gl 22 Try.func72 #[.pointer (some ⟨g617, 0, none⟩), .int .i64 t618] ?_; (with_reducible refine (jg.calls k g617 t615 t622 t618 t623 t624 t625 t626 w _ ?_ ?_ A4.out).mono ?_); (· repeat (first | (with_reducible first | exact HI617.out | apply IsS112.alloc | apply IsS112.drewN | apply IsS112.drew | apply IsS112.set_1) | exact HI617.out)); (· repeat (first | (with_reducible first | exact HB.out | apply q8 | apply qo | apply qx | refine zl ?_ (IsS112.ge HI617.out)) | exact HB.out)); rintro e w11 ⟨rfl, hi, hb, hk⟩; refine ⟨_, rfl, ?_⟩; replace HO621 := am (Kd.R_mono (Kd.R_keep (IsS112.apart (show IsS112 w _ g617 t615 t622 from jd HI617) (wR HO621) (by decide)) hk (fun _ h => h.2)) (fun _ h => h.1)); replace HB := am (hb); replace HI617 := am (hi); (try clear hb); (try clear hk); (try clear hi); obtain ⟨Ao12, co12, eo12⟩ := Kd.R_slice HO621.out; subst eo12) | ((with_reducible refine qf (f := 30) rfl ?_); refine gl 23 Try.func30 #[.int .i64 t618, .slice Ao12 t619.length co12, .agg #[.int .i64 t623, .int .i64 t624, .int .i64 t625]] ?_; (with_reducible refine (zi.calls k t618 _ _ t619 t623 t624 t625 t627 true _ ?_ ?_ A5.out).mono ?_); exact Kd.C_below (Kd.R_reads' HO621.out).2.2 gs; exact (Kd.R_reads' HO621.out).2.1; rintro e w13 ⟨v628, rfl, ho0, hb⟩; refine ⟨_, rfl, ?_⟩; replace HO621 := am (Kd.R_below (wR HO621) hb); have HO629 := am (Kd.R_lower ho0 (zc (jt HB HI617))); replace HB := am (qz (jt HB HI617) hb); replace HI617 := am (IsS112.below (jd HI617) hb); (try clear hb); (try clear ho0)) | (go_at_call 71; (with_reducible refine (qe.calls k g617 t615 t626 2 t631 t632 w _ ?_ ?_ A7.out).mono ?_); (· repeat (first | (with_reducible first | exact HI617.out | apply IsS112.alloc | apply IsS112.drewN | apply IsS112.drew | apply IsS112.set_1) | exact HI617.out)); (· repeat (first | (with_reducible first | exact HB.out | apply q8 | apply qo | apply qx | refine zl ?_ (IsS112.ge HI617.out)) | exact HB.out)); rintro e w14 ⟨rfl, hi, hb, hk⟩; replace HO621 := am (Kd.R_mono (Kd.R_keep (IsS112.apart (show IsS112 w _ g617 t615 t626 from jd HI617) (wR HO621) (by decide)) hk (fun _ h => h.2)) (fun _ h => h.1)); replace HO629 := am (Kd.R_mono (Kd.R_keep (IsS112.apart (show IsS112 w _ g617 t615 t626 from jd HI617) (wR HO629) (by decide)) hk (fun _ h => h.2)) (fun _ h => h.1)); replace HB := am (hb); replace HI617 := am (hi); (try clear hb); (try clear hk); (try clear hi)))
   go_ret3
   exact ⟨_, _, fq, wR HO621, wR HO629, jt HB HI617⟩
  ·rw [if_neg c8] at H
   have c8b0 := beq_eq_false_iff_ne.mpr c8; have c8b1 := bne_iff_ne.mpr c8; replace H := bs H
   obtain ⟨⟨t633, t636⟩, A15, H⟩ := H
   dsimp only at H
   simp only [Option.some.injEq, Prod.mk.injEq] at H
   obtain ⟨rfl, rfl, rfl⟩ := H
   go_enter Try.func40, Try.ntmps40
   go_wp2_with (first | ((with_reducible refine qf (f := 69) rfl ?_); refine gl 11 Try.func69 #[.slice A0 l0.length c0] ?_; (with_reducible refine (Q4.calls _ _ l0 t615 t616 w _ ?_ ?_ ?_ A2.out).mono ?_); (· repeat (first | (with_reducible first | exact HB.out | apply q8 | apply qo | apply qx) | exact HB.out)); exact HR0.out; exact HC0.out; rintro e w16 ⟨g617, rfl, hi, hb, hb2⟩; refine ⟨_, rfl, ?_⟩; replace HB := am (hb); have HI617 := am (hi); (try clear hb); (try clear hb2); (try clear hi)) | ((with_reducible refine qf (f := 70) rfl ?_); refine gl 14 Try.func70 #[.pointer (some ⟨g617, 0, none⟩)] ?_; (with_reducible refine (zn.calls k g617 t615 t616 t618 t619 t622 w _ ?_ ?_ A3.out).mono ?_); (· repeat (first | (with_reducible first | exact HI617.out | apply IsS112.alloc | apply IsS112.drewN | apply IsS112.drew | apply IsS112.set_1) | exact HI617.out)); (· repeat (first | (with_reducible first | exact HB.out | apply q8 | apply qo | apply qx | refine zl ?_ (IsS112.ge HI617.out)) | exact HB.out)); rintro e w17 ⟨v620, rfl, ho0, hi, hb, hk⟩; refine ⟨_, rfl, ?_⟩; have HO621 := am (Kd.R_lower ho0 (zc (jt HB HI617))); replace HB := am (hb); replace HI617 := am (hi); (try clear hb); (try clear hk); (try clear hi); (try clear ho0)) | ((with_reducible refine qf (f := 72) rfl ?_); refine gl 22 Try.func72 #[.pointer (some ⟨g617, 0, none⟩), .int .i64 t618] ?_; (with_reducible refine (jg.calls k g617 t615 t622 t618 t623 t624 t625 t626 w _ ?_ ?_ A4.out).mono ?_); (· repeat (first | (with_reducible first | exact HI617.out | apply IsS112.alloc | apply IsS112.drewN | apply IsS112.drew | apply IsS112.set_1) | exact HI617.out)); (· repeat (first | (with_reducible first | exact HB.out | apply q8 | apply qo | apply qx | refine zl ?_ (IsS112.ge HI617.out)) | exact HB.out)); rintro e w18 ⟨rfl, hi, hb, hk⟩; refine ⟨_, rfl, ?_⟩; replace HO621 := am (Kd.R_mono (Kd.R_keep (IsS112.apart (show IsS112 w _ g617 t615 t622 from jd HI617) (wR HO621) (by decide)) hk (fun _ h => h.2)) (fun _ h => h.1)); replace HB := am (hb); replace HI617 := am (hi); (try clear hb); (try clear hk); (try clear hi); obtain ⟨Ao19, co19, eo19⟩ := Kd.R_slice HO621.out; subst eo19) | ((with_reducible refine qf (f := 30) rfl ?_); refine gl 23 Try.func30 #[.int .i64 t618, .slice Ao19 t619.length co19, .agg #[.int .i64 t623, .int .i64 t624, .int .i64 t625]] ?_; (with_reducible refine (zi.calls k t618 _ _ t619 t623 t624 t625 t627 true _ ?_ ?_ A5.out).mono ?_); exact Kd.C_below (Kd.R_reads' HO621.out).2.2 gs; exact (Kd.R_reads' HO621.out).2.1; rintro e w20 ⟨v628, rfl, ho0, hb⟩; refine ⟨_, rfl, ?_⟩; replace HO621 := am (Kd.R_below (wR HO621) hb); have HO629 := am (Kd.R_lower ho0 (zc (jt HB HI617))); replace HB := am (qz (jt HB HI617) hb); replace HI617 := am (IsS112.below (jd HI617) hb); (try clear hb); (try clear ho0)) | (go_at_call 71; (with_reducible refine (qe.calls k g617 t615 t626 2 t631 t632 w _ ?_ ?_ A7.out).mono ?_); (· repeat (first | (with_reducible first | exact HI617.out | apply IsS112.alloc | apply IsS112.drewN | apply IsS112.drew | apply IsS112.set_1) | exact HI617.out)); (· repeat (first | (with_reducible first | exact HB.out | apply q8 | apply qo | apply qx | refine zl ?_ (IsS112.ge HI617.out)) | exact HB.out)); rintro e w21 ⟨rfl, hi, hb, hk⟩; replace HO621 := am (Kd.R_mono (Kd.R_keep (IsS112.apart (show IsS112 w _ g617 t615 t626 from jd HI617) (wR HO621) (by decide)) hk (fun _ h => h.2)) (fun _ h => h.1)); replace HO629 := am (Kd.R_mono (Kd.R_keep (IsS112.apart (show IsS112 w _ g617 t615 t626 from jd HI617) (wR HO629) (by decide)) hk (fun _ h => h.2)) (fun _ h => h.1)); replace HB := am (hb); replace HI617 := am (hi); (try clear hb); (try clear hk); (try clear hi)) | ((with_reducible refine qf (f := 86) rfl ?_); refine gl 39 Try.func86 #[.pointer (some ⟨g617, 0, none⟩), .int .i64 t618] ?_; (with_reducible refine (jw.calls k g617 t615 t632 t618 t633 t636 w _ ?_ ?_ A15.out).mono ?_); (· repeat (first | (with_reducible first | exact HI617.out | apply IsS112.alloc | apply IsS112.drewN | apply IsS112.drew | apply IsS112.set_1) | exact HI617.out)); (· repeat (first | (with_reducible first | exact HB.out | apply q8 | apply qo | apply qx | refine zl ?_ (IsS112.ge HI617.out)) | exact HB.out)); rintro e w22 ⟨v634, rfl, ho0, hi, hb, hk⟩; refine ⟨_, rfl, ?_⟩; replace HO621 := am (Kd.R_mono (Kd.R_keep (IsS112.apart (show IsS112 w _ g617 t615 t632 from jd HI617) (wR HO621) (by decide)) hk (fun _ h => h.2)) (fun _ h => h.1)); have HO635 := am (Kd.R_lower (Kd.R_new' ho0 (Kd.R_lt (wR HO629))) (zc (jt HB HI617))); replace HO629 := am (Kd.R_mono (Kd.R_told (Kd.R_oldK (IsS112.apart (show IsS112 w _ g617 t615 t632 from jd HI617) (wR HO629) (by decide)) hk) (Kd.R_base ho0)) (fun _ h_ => h_.1)); replace HB := am (hb); replace HI617 := am (hi); (try clear hb); (try clear hk); (try clear hi); (try clear ho0)))
   go_ret3
   exact ⟨_, _, fq, wR HO621, Kd.R_below (Kd.R_mono HO635.out (fun _ hk => trivial)) gs, jt HB HI617⟩
 ·replace c6 := Bool.eq_false_iff.mpr c6
  subst c6
  rw [if_neg (show ¬ (false = true) by decide)] at H
  replace H := bs H
  obtain ⟨⟨t637, t640⟩, A23, H⟩ := H
  dsimp only at H
  simp only [Option.some.injEq, Prod.mk.injEq] at H
  obtain ⟨rfl, rfl, rfl⟩ := H
  go_enter Try.func40, Try.ntmps40
  go_wp2_with (first | ((with_reducible refine qf (f := 69) rfl ?_); refine gl 11 Try.func69 #[.slice A0 l0.length c0] ?_; (with_reducible refine (Q4.calls _ _ l0 t615 t616 w _ ?_ ?_ ?_ A2.out).mono ?_); (· repeat (first | (with_reducible first | exact HB.out | apply q8 | apply qo | apply qx) | exact HB.out)); exact HR0.out; exact HC0.out; rintro e w24 ⟨g617, rfl, hi, hb, hb2⟩; refine ⟨_, rfl, ?_⟩; replace HB := am (hb); have HI617 := am (hi); (try clear hb); (try clear hb2); (try clear hi)) | ((with_reducible refine qf (f := 70) rfl ?_); refine gl 14 Try.func70 #[.pointer (some ⟨g617, 0, none⟩)] ?_; (with_reducible refine (zn.calls k g617 t615 t616 t618 t619 t622 w _ ?_ ?_ A3.out).mono ?_); (· repeat (first | (with_reducible first | exact HI617.out | apply IsS112.alloc | apply IsS112.drewN | apply IsS112.drew | apply IsS112.set_1) | exact HI617.out)); (· repeat (first | (with_reducible first | exact HB.out | apply q8 | apply qo | apply qx | refine zl ?_ (IsS112.ge HI617.out)) | exact HB.out)); rintro e w25 ⟨v620, rfl, ho0, hi, hb, hk⟩; refine ⟨_, rfl, ?_⟩; have HO621 := am (Kd.R_lower ho0 (zc (jt HB HI617))); replace HB := am (hb); replace HI617 := am (hi); (try clear hb); (try clear hk); (try clear hi); (try clear ho0)) | ((with_reducible refine qf (f := 72) rfl ?_); refine gl 22 Try.func72 #[.pointer (some ⟨g617, 0, none⟩), .int .i64 t618] ?_; (with_reducible refine (jg.calls k g617 t615 t622 t618 t623 t624 t625 t626 w _ ?_ ?_ A4.out).mono ?_); (· repeat (first | (with_reducible first | exact HI617.out | apply IsS112.alloc | apply IsS112.drewN | apply IsS112.drew | apply IsS112.set_1) | exact HI617.out)); (· repeat (first | (with_reducible first | exact HB.out | apply q8 | apply qo | apply qx | refine zl ?_ (IsS112.ge HI617.out)) | exact HB.out)); rintro e w26 ⟨rfl, hi, hb, hk⟩; refine ⟨_, rfl, ?_⟩; replace HO621 := am (Kd.R_mono (Kd.R_keep (IsS112.apart (show IsS112 w _ g617 t615 t622 from jd HI617) (wR HO621) (by decide)) hk (fun _ h => h.2)) (fun _ h => h.1)); replace HB := am (hb); replace HI617 := am (hi); (try clear hb); (try clear hk); (try clear hi); obtain ⟨Ao27, co27, eo27⟩ := Kd.R_slice HO621.out; subst eo27) | ((with_reducible refine qf (f := 30) rfl ?_); refine gl 23 Try.func30 #[.int .i64 t618, .slice Ao27 t619.length co27, .agg #[.int .i64 t623, .int .i64 t624, .int .i64 t625]] ?_; (with_reducible refine (zi.calls k t618 _ _ t619 t623 t624 t625 t627 false _ ?_ ?_ A5.out).mono ?_); exact Kd.C_below (Kd.R_reads' HO621.out).2.2 gs; exact (Kd.R_reads' HO621.out).2.1; rintro e w28 ⟨v628, rfl, ho0, hb⟩; refine ⟨_, rfl, ?_⟩; replace HO621 := am (Kd.R_below (wR HO621) hb); have HO629 := am (Kd.R_lower ho0 (zc (jt HB HI617))); replace HB := am (qz (jt HB HI617) hb); replace HI617 := am (IsS112.below (jd HI617) hb); (try clear hb); (try clear ho0)) | ((with_reducible refine qf (f := 86) rfl ?_); refine gl 39 Try.func86 #[.pointer (some ⟨g617, 0, none⟩), .int .i64 t618] ?_; (with_reducible refine (jw.calls k g617 t615 t626 t618 t637 t640 w _ ?_ ?_ A23.out).mono ?_); (· repeat (first | (with_reducible first | exact HI617.out | apply IsS112.alloc | apply IsS112.drewN | apply IsS112.drew | apply IsS112.set_1) | exact HI617.out)); (· repeat (first | (with_reducible first | exact HB.out | apply q8 | apply qo | apply qx | refine zl ?_ (IsS112.ge HI617.out)) | exact HB.out)); rintro e w29 ⟨v638, rfl, ho0, hi, hb, hk⟩; refine ⟨_, rfl, ?_⟩; replace HO621 := am (Kd.R_mono (Kd.R_keep (IsS112.apart (show IsS112 w _ g617 t615 t626 from jd HI617) (wR HO621) (by decide)) hk (fun _ h => h.2)) (fun _ h => h.1)); have HO639 := am (Kd.R_lower (Kd.R_new' ho0 (Kd.R_lt (wR HO629))) (zc (jt HB HI617))); replace HO629 := am (Kd.R_mono (Kd.R_told (Kd.R_oldK (IsS112.apart (show IsS112 w _ g617 t615 t626 from jd HI617) (wR HO629) (by decide)) hk) (Kd.R_base ho0)) (fun _ h_ => h_.1)); replace HB := am (hb); replace HI617 := am (hi); (try clear hb); (try clear hk); (try clear hi); (try clear ho0)))
  go_ret3
  exact ⟨_, _, fq, wR HO621, Kd.R_below (Kd.R_mono HO639.out (fun _ hk => trivial)) gs, jt HB HI617⟩
def j3.f (k : Nat) (a0 : Int) (l1 : List Int) (l2 : List Int) : Option (Int × Bool) := (z1.f a0 l1 20).bind fun t641 => (if t641 = true then ((Qi.f a0 l2).bind fun t642 => (if t642 = true then ((qt.f k a0 l1 l2).bind fun t643 => (some (t643, true))) else (some (0, false)))) else (some (0, false)))
theorem j3.mono : ∀ a0 a1 a2 k, LeO (j3.f k a0 a1 a2) (j3.f (k + 1) a0 a1 a2) := by
 intro a0 a1 a2 k
 unfold j3.f
 repeat' first | (with_reducible first | apply qt.mono | exact LeO.refl _ | exact LeO.none _ | refine LeO.ite ?_ ?_ | refine LeO.bind ?_ (fun _ => ?_)) | (first | apply qt.mono | exact LeO.none _ | refine LeO.ite ?_ ?_ | refine LeO.bind ?_ (fun _ => ?_))
theorem j3.calls (k : Nat) (a0 : Int) (A1 : Option Addr) (c1 : Nat) (l1 : List Int) (A2 : Option Addr) (c2 : Nat) (l2 : List Int) (r1 : Int) (r2 : Bool) (w : World) (hr1 : Kd.C (Kd.int .i64) w A1 l1.length l1) (hc1 : l1.length ≤ c1) (hr2 : Kd.C (Kd.int .i64) w A2 l2.length l2) (hc2 : l2.length ≤ c2) (h : j3.f k a0 l1 l2 = some (r1, r2)) :
  Calls Try.prog 41 #[.int .i64 a0, .slice A1 l1.length c1, .slice A2 l2.length c2] w fun e w' => e = .returned (.tuple #[.int .i64 r1, .bool r2]) ∧ Below w.heap.size w w' := by
 have HR1 := am hr1
 have HC1 := am hc1
 clear hr1 hc1
 have HR2 := am hr2
 have HC2 := am hc2
 clear hr2 hc2
 have HB := am (Below.refl w.heap.size w)
 have H : ((z1.f a0 l1 20).bind fun t641 => (if t641 = true then ((Qi.f a0 l2).bind fun t642 => (if t642 = true then ((qt.f k a0 l1 l2).bind fun t643 => (some (t643, true))) else (some (0, false)))) else (some (0, false)))) = some (r1, r2) := h
 clear h; replace H := bs H; obtain ⟨t641, A4, H⟩ := H
 by_cases c5 : t641 = true
 ·subst c5
  rw [if_pos rfl] at H
  replace H := bs H; obtain ⟨t642, A6, H⟩ := H
  by_cases c7 : t642 = true
  ·subst c7
   rw [if_pos rfl] at H
   replace H := bs H; obtain ⟨t643, A8, H⟩ := H
   simp only [Option.some.injEq, Prod.mk.injEq] at H
   obtain ⟨rfl, rfl⟩ := H
   go_enter Try.func41, Try.ntmps41
   go_wp2_with (first | ((with_reducible refine qf (f := 52) rfl ?_); refine gl 10 Try.func52 #[.int .i64 a0, .slice A1 l1.length c1, .int .i64 20] ?_; (with_reducible refine (z1.calls a0 _ _ l1 20 true _ ?_ ?_ A4.out).mono ?_); exact wC HR1; exact HC1.out; rintro e w9 ⟨rfl, hb⟩; refine ⟨_, rfl, ?_⟩; replace HB := bq HB hb; (try clear hb)) | (go_at_call 83; (with_reducible refine (Qi.calls a0 _ _ l2 true _ ?_ ?_ A6.out).mono ?_); exact Kd.C_below HR2.out (bw HB); exact HC2.out; rintro e w10 ⟨rfl, hb⟩; replace HB := bq HB hb; (try clear hb)) | ((with_reducible refine qf (f := 55) rfl ?_); refine gl 21 Try.func55 #[.int .i64 a0, .slice A1 l1.length c1, .slice A2 l2.length c2] ?_; (with_reducible refine (qt.calls k a0 _ _ l1 _ _ l2 t643 _ ?_ ?_ ?_ ?_ A8.out).mono ?_); exact Kd.C_below HR1.out (bw HB); exact HC1.out; exact Kd.C_below HR2.out (bw HB); exact HC2.out; rintro e w' ⟨rfl, ⟨nd, rfl⟩⟩; refine ⟨_, rfl, ?_⟩))
   go_ret2
   exact ⟨fq, bw HB⟩
  ·replace c7 := Bool.eq_false_iff.mpr c7
   subst c7
   rw [if_neg (show ¬ (false = true) by decide)] at H
   simp only [Option.some.injEq, Prod.mk.injEq] at H
   obtain ⟨rfl, rfl⟩ := H
   go_enter Try.func41, Try.ntmps41
   go_wp2_with (first | ((with_reducible refine qf (f := 52) rfl ?_); refine gl 10 Try.func52 #[.int .i64 a0, .slice A1 l1.length c1, .int .i64 20] ?_; (with_reducible refine (z1.calls a0 _ _ l1 20 true _ ?_ ?_ A4.out).mono ?_); exact wC HR1; exact HC1.out; rintro e w11 ⟨rfl, hb⟩; refine ⟨_, rfl, ?_⟩; replace HB := bq HB hb; (try clear hb)) | (go_at_call 83; (with_reducible refine (Qi.calls a0 _ _ l2 false _ ?_ ?_ A6.out).mono ?_); exact Kd.C_below HR2.out (bw HB); exact HC2.out; rintro e w12 ⟨rfl, hb⟩; replace HB := bq HB hb; (try clear hb)))
   go_ret2
   exact ⟨fq, bw HB⟩
 ·replace c5 := Bool.eq_false_iff.mpr c5
  subst c5
  rw [if_neg (show ¬ (false = true) by decide)] at H
  simp only [Option.some.injEq, Prod.mk.injEq] at H
  obtain ⟨rfl, rfl⟩ := H
  go_enter Try.func41, Try.ntmps41
  go_wp2_with (first | ((with_reducible refine qf (f := 52) rfl ?_); refine gl 10 Try.func52 #[.int .i64 a0, .slice A1 l1.length c1, .int .i64 20] ?_; (with_reducible refine (z1.calls a0 _ _ l1 20 false _ ?_ ?_ A4.out).mono ?_); exact wC HR1; exact HC1.out; rintro e w13 ⟨rfl, hb⟩; refine ⟨_, rfl, ?_⟩; replace HB := bq HB hb; (try clear hb)))
  go_ret2
  exact ⟨fq, bw HB⟩
def laws_FnHas.j0 : Nat → Int → List (S43) → List Int → Bool → Bool → Bool → Option (Bool)
 | 0, _, _, _, _, _, _ => none
 | k + 1, x3, x4, x5, x6, x7, x35 => if x35 = true then (some (x6 == x7)) else ((jy.f k x3 x4).bind fun bt653 => ((j3.f k x3 bt653.1 x5).bind fun bt657 => (if bt653.2 = true then (if bt657.2 = true then (some (bt657.1 == 0)) else (some false)) else (some false))))
def laws_FnHas.f (k : Nat) (l0 : List Int) : Option (Bool) := if (l0.length : Int) > 1048576 then (some true) else ((je.f k l0).bind fun bt644 => ((jp.f k bt644.1 bt644.2.1 bt644.2.2).bind fun t651 => ((jo.f k bt644.1 bt644.2.1 bt644.2.2).bind fun t652 => (if (t651 != t652) = true then (laws_FnHas.j0 k bt644.1 bt644.2.1 bt644.2.2 t651 t652 true) else (laws_FnHas.j0 k bt644.1 bt644.2.1 bt644.2.2 t651 t652 (!t651))))))
theorem laws_FnHas.mono_l : ∀ k, (∀ y0 y1 y2 y3 y4 y5, LeO (laws_FnHas.j0 k y0 y1 y2 y3 y4 y5) (laws_FnHas.j0 (k + 1) y0 y1 y2 y3 y4 y5))
 | 0 => fun _ _ _ _ _ _ r h => by simp [laws_FnHas.j0] at h
 | k + 1 => by
  have ih0 := laws_FnHas.mono_l k
  ·intro y0 y1 y2 y3 y4 y5
   unfold laws_FnHas.j0
   repeat' first | (with_reducible first | apply ih0 | apply j3.mono | apply jp.mono | apply jy.mono | apply je.mono | apply jo.mono | exact LeO.refl _ | exact LeO.none _ | refine LeO.ite ?_ ?_ | refine LeO.bind ?_ (fun _ => ?_)) | (first | apply ih0 | apply j3.mono | apply jp.mono | apply jy.mono | apply je.mono | apply jo.mono | exact LeO.none _ | refine LeO.ite ?_ ?_ | refine LeO.bind ?_ (fun _ => ?_))
theorem laws_FnHas.mono : ∀ a0 k, LeO (laws_FnHas.f k a0) (laws_FnHas.f (k + 1) a0) := by
 intro a0 k
 have ih0 := laws_FnHas.mono_l k
 unfold laws_FnHas.f
 repeat' first | (with_reducible first | apply ih0 | apply j3.mono | apply jp.mono | apply jy.mono | apply je.mono | apply jo.mono | exact LeO.refl _ | exact LeO.none _ | refine LeO.ite ?_ ?_ | refine LeO.bind ?_ (fun _ => ?_)) | (first | apply ih0 | apply j3.mono | apply jp.mono | apply jy.mono | apply je.mono | apply jo.mono | exact LeO.none _ | refine LeO.ite ?_ ?_ | refine LeO.bind ?_ (fun _ => ?_))
theorem laws_FnHas.calls (k : Nat) (A0 : Option Addr) (c0 : Nat) (l0 : List Int) (r : Bool) (w : World) (hr0 : Kd.C (Kd.int .u8) w A0 l0.length l0) (hc0 : l0.length ≤ c0) (hT : r = true) (h : laws_FnHas.f k l0 = some r) :
  Calls Try.prog 9 #[.slice A0 l0.length c0] w fun e w' => e = .returned (.bool r) ∧ Below w.heap.size w w' := by
 have HT := am hT
 clear hT
 have HR0 := am hr0
 have HC0 := am hc0
 clear hr0 hc0
 have HB := am (Below.refl w.heap.size w)
 have H : (if (l0.length : Int) > 1048576 then (some true) else ((je.f k l0).bind fun bt644 => ((jp.f k bt644.1 bt644.2.1 bt644.2.2).bind fun t651 => ((jo.f k bt644.1 bt644.2.1 bt644.2.2).bind fun t652 => (if (t651 != t652) = true then (laws_FnHas.j0 k bt644.1 bt644.2.1 bt644.2.2 t651 t652 true) else (laws_FnHas.j0 k bt644.1 bt644.2.1 bt644.2.2 t651 t652 (!t651))))))) = some r := h
 clear h
 by_cases c2 : (l0.length : Int) > 1048576
 ·rw [if_pos c2] at H
  have c2b0 := decide_eq_true c2
  have c2b1 : decide (1048576 < l0.length) = true := decide_eq_true (by omega)
  clear c2; obtain rfl := Option.some.inj H
  go_enter Try.func9, Try.ntmps9
  go_wp2; go_ret
  exact ⟨fq, bw HB⟩
 ·rw [if_neg c2] at H
  have c2b0 := decide_eq_false c2
  have c2b1 : decide (1048576 < l0.length) = false := decide_eq_false (by omega)
  clear c2; replace H := bs H
  obtain ⟨⟨t644, t645, t646⟩, A3, H⟩ := H
  dsimp only at H
  replace H := bs H; obtain ⟨t651, A4, H⟩ := H; replace H := bs H; obtain ⟨t652, A5, H⟩ := H
  have HC6 := am H
  clear H
  go_enter Try.func9, Try.ntmps9
  go_upto_region 6 with (first | ((with_reducible refine qf (f := 40) rfl ?_); refine gl 17 Try.func40 #[.slice A0 l0.length c0] ?_; (with_reducible refine (je.calls k _ _ l0 t644 t645 t646 _ ?_ ?_ A3.out).mono ?_); exact wC HR0; exact HC0.out; rintro e w7 ⟨v647, v649, rfl, ho0, ho1, hb⟩; refine ⟨_, rfl, ?_⟩; have HO648 := am (Kd.R_lower ho0 (bz HB)); have HO650 := am (Kd.R_lower ho1 (bz HB)); replace HB := bq HB hb; (try clear hb); (try clear ho0); (try clear ho1); obtain ⟨Ao8, co8, eo8⟩ := Kd.R_slice HO648.out; subst eo8; obtain ⟨Ao9, co9, eo9⟩ := Kd.R_slice HO650.out; subst eo9) | ((with_reducible refine qf (f := 35) rfl ?_); refine gl 24 Try.func35 #[.int .i64 t644, .slice Ao8 t645.length co8, .slice Ao9 t646.length co9] ?_; (with_reducible refine (jp.calls k t644 _ _ t645 _ _ t646 t651 _ ?_ ?_ ?_ ?_ A4.out).mono ?_); exact Kd.C_below (Kd.R_reads' HO648.out).2.2 gs; exact (Kd.R_reads' HO648.out).2.1; exact Kd.C_below (Kd.R_reads' HO650.out).2.2 gs; exact (Kd.R_reads' HO650.out).2.1; rintro e w10 ⟨rfl, hb⟩; refine ⟨_, rfl, ?_⟩; replace HO648 := am (Kd.R_below (wR HO648) hb); replace HO650 := am (Kd.R_below (wR HO650) hb); replace HB := bq HB hb; (try clear hb)) | ((with_reducible refine qf (f := 36) rfl ?_); refine gl 28 Try.func36 #[.int .i64 t644, .slice Ao8 t645.length co8, .slice Ao9 t646.length co9] ?_; (with_reducible refine (jo.calls k t644 _ _ t645 _ _ t646 t652 _ ?_ ?_ ?_ ?_ A5.out).mono ?_); exact Kd.C_below (Kd.R_reads' HO648.out).2.2 gs; exact (Kd.R_reads' HO648.out).2.1; exact Kd.C_below (Kd.R_reads' HO650.out).2.2 gs; exact (Kd.R_reads' HO650.out).2.1; rintro e w11 ⟨rfl, hb⟩; refine ⟨_, rfl, ?_⟩; replace HO648 := am (Kd.R_below (wR HO648) hb); replace HO650 := am (Kd.R_below (wR HO650) hb); replace HB := bq HB hb; (try clear hb)))
  (try simp only [Act.put, List.setIfInBounds_toArray, List.set_cons_zero, List.set_cons_succ])
  go_cut [35] (fun v35 wc => ∃ (kq : Nat) (x35_5 : Bool), v35 = .bool x35_5 ∧ qb (laws_FnHas.j0 kq t644 t645 t646 t651 t652 x35_5 = some r) ∧ qb (kq ≤ k) ∧ qb (Kd.R k43 43 wc w.heap.size (fun _ => True) (.slice Ao8 t645.length co8) t645) ∧ qb (Kd.R (Kd.int .i64) 3 wc w.heap.size (fun _ => True) (.slice Ao9 t646.length co9) t646) ∧ qb (Below w.heap.size w wc))
  case first =>
   have H := HC6.out
   clear HC6
   by_cases c12 : (t651 != t652) = true
   ·rw [if_pos c12] at H
    have c12b0 : (t651 != t652) = true := c12
    (try (have c12b1 : decide (t651 = t652) = false := by simpa using c12))
    (try (have c12b2 : (t651 == t652) = false := by simpa using c12))
    (try (have c12b3 : ¬ (t651 = t652) := by simpa using c12))
    clear c12
    (first | rw [c12b0] | (simp only [Q9, Zj]; rw [c12b0]) | skip)
    have H' := am H; clear H; go_wp2
    go_meet
    case rel => exact ⟨_, (true), fr, H', ⟨by first | omega | exact Nat.le_refl _⟩, ⟨wR HO648⟩, ⟨wR HO650⟩, ⟨bw HB⟩⟩
   ·rw [if_neg c12] at H
    have c12b0 : (t651 != t652) = false := by simpa using c12
    (try (have c12b1 : decide (t651 = t652) = true := by simpa using c12))
    (try (have c12b2 : (t651 == t652) = true := by simpa using c12))
    clear c12
    (first | rw [c12b0] | (simp only [Q9, Zj]; rw [c12b0]) | skip)
    have H' := am H; clear H; go_wp2
    go_meet
    case rel => exact ⟨_, (!t651), fr, H', ⟨by first | omega | exact Nat.le_refl _⟩, ⟨wR HO648⟩, ⟨wR HO650⟩, ⟨bw HB⟩⟩
  case rest =>
   clear HC6; try clear c1; try clear c2; try clear c2b0; try clear c2b1; try clear p2; try clear c3; try clear c4; try clear c9; try clear c12; try clear c12b0; try clear c12b1; try clear c12b2
   obtain ⟨kq, x35_5, rfl, HA, HJ5, HO_4, HO_5, HB⟩ := hcut
   cases kq with
   | zero => exact absurd HA.out (by simp [laws_FnHas.j0])
   | succ kj5 =>
    have H := HA.out; clear HA
    simp only [laws_FnHas.j0] at H
    by_cases c13 : x35_5 = true
    ·subst c13
     rw [if_pos rfl] at H
     obtain rfl := Option.some.inj H; go_wp2; go_ret
     exact ⟨fq, bw HB⟩
    ·replace c13 := Bool.eq_false_iff.mpr c13
     subst c13
     rw [if_neg (show ¬ (false = true) by decide)] at H
     replace H := bs H
     obtain ⟨⟨t653, t654⟩, A14, H⟩ := H
     dsimp only at H
     replace H := bs H
     obtain ⟨⟨t657, t658⟩, A15, H⟩ := H
     dsimp only at H
     by_cases c16 : t654 = true
     ·subst c16
      rw [if_pos rfl] at H
      by_cases c17 : t658 = true
      ·subst c17
       rw [if_pos rfl] at H
       obtain rfl := Option.some.inj H
       go_wp2_with (first | ((with_reducible refine qf (f := 22) rfl ?_); refine gl 42 Try.func22 #[.int .i64 t644, .slice Ao8 t645.length co8] ?_; (with_reducible refine (jy.calls kj5 t644 _ _ t645 t653 true _ ?_ ?_ A14.out).mono ?_); exact Kd.C_below (Kd.R_reads' HO_4.out).2.2 gs; exact (Kd.R_reads' HO_4.out).2.1; rintro e w18 ⟨v655, rfl, ho0, hb⟩; refine ⟨_, rfl, ?_⟩; replace HO_4 := am (Kd.R_below (wR HO_4) hb); have HO656 := am (Kd.R_lower (Kd.R_new' ho0 (Kd.R_lt (wR HO_5))) (bz HB)); replace HO_5 := eR HO_5 (Kd.R_base ho0) hb; replace HB := bq HB hb; (try clear hb); (try clear ho0); obtain ⟨Ao19, co19, eo19⟩ := Kd.R_slice HO656.out; subst eo19) | ((with_reducible refine qf (f := 41) rfl ?_); refine gl 49 Try.func41 #[.int .i64 t644, .slice Ao19 t653.length co19, .slice Ao9 t646.length co9] ?_; (with_reducible refine (j3.calls kj5 t644 _ _ t653 _ _ t646 t657 true _ ?_ ?_ ?_ ?_ A15.out).mono ?_); exact Kd.C_below (Kd.R_reads' HO656.out).2.2 gs; exact (Kd.R_reads' HO656.out).2.1; exact Kd.C_below (Kd.R_reads' HO_5.out).2.2 gs; exact (Kd.R_reads' HO_5.out).2.1; rintro e w20 ⟨rfl, hb⟩; refine ⟨_, rfl, ?_⟩; replace HO_4 := am (Kd.R_below (wR HO_4) hb); replace HO_5 := am (Kd.R_below (wR HO_5) hb); replace HO656 := am (Kd.R_below (wR HO656) hb); replace HB := bq HB hb; (try clear hb)))
       go_ret
       exact ⟨fq, bw HB⟩
      ·replace c17 := Bool.eq_false_iff.mpr c17
       subst c17
       rw [if_neg (show ¬ (false = true) by decide)] at H
       exact absurd (H.trans (congrArg some HT.out)) (by simp)
     ·replace c16 := Bool.eq_false_iff.mpr c16
      subst c16
      rw [if_neg (show ¬ (false = true) by decide)] at H
      exact absurd (H.trans (congrArg some HT.out)) (by simp)
def laws_FnHas.Pure : Prop := ∀ (l0 : List Int), l0.length ≤ maxLen → l0.length * 1 ≤ 140737488351232 → (∀ x ∈ l0, (Lit.int .u8 x).wf = true) → ∃ k, laws_FnHas.f k l0 = some true
theorem laws_FnHas.walk (P : laws_FnHas.Pure) (a0 : Option Addr) (len0 cap0 : Nat) (z0 : List Int) (w : World) (w0 : (a0 = none ∧ len0 = 0 ∧ cap0 = 0 ∧ z0 = []) ∨ ∃ x, a0 = some x ∧ len0 ≤ cap0 ∧ cap0 ≤ maxLen ∧ z0.length = cap0 ∧ (∀ i, i < z0.length → w.cell? (x.add i) = some (.int .u8 (z0.getD i 0))) ∧ ∀ n ∈ z0, (Lit.int .u8 n).wf = true) (y0 : len0 * 1 ≤ 140737488351232) :
  Calls Try.prog 9 #[.slice a0 len0 cap0] w fun e w' => e = .returned (.bool true) ∧ Below w.heap.size w w' := by
 obtain ⟨l0, rfl, hr0, hm0, hw0, hc0⟩ := ReadsInt.ofRowC w0
 obtain ⟨k, h⟩ := P l0 hm0 y0 hw0
 refine (laws_FnHas.calls k _ _ l0 true w (Kd.C_of_reads (d := (0 : Int)) (h1 := fun _ => rfl) hr0) hc0 rfl h).mono ?_
 rintro e w' ⟨rfl, hd⟩
 exact ⟨rfl, hd⟩
end Go.Proofs.Ytmgbpmihbljngaa.PA
