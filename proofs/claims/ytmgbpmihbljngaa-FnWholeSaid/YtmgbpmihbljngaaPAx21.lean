-- Written by xprint.py, a program of this claim's own (over the kit's print.py)
import Derived.Test.YtmgbpmihbljngaaPAx16
namespace Go.Proofs.Ytmgbpmihbljngaa.PA
set_option maxHeartbeats 8000000
set_option maxRecDepth 100000
open Go.RowKit Go.Proofs.YtmgbpmihbljngaaW.PrintWords Go.Proofs.YtmgbpmihbljngaaW.PrintLast Go.Proofs.YtmgbpmihbljngaaW.PrintMore
attribute [local go_sem] Qg Qj Qp Qo j4 j3 Qh Qf
set_option linter.unusedVariables false
set_option linter.unusedSimpArgs false
def jz.f (k:Nat) (s0_0:List Int) (s0_1:Int) (a1:Int):Option (List Int×Int):=(qb.f k s0_0 s0_1 2).bind fun bt521=>((qb.f k s0_0 bt521.2 a1).bind fun bt523=>((qb.f k s0_0 bt523.2 a1).bind fun bt525=>((qb.f k s0_0 bt525.2 a1).bind fun bt527=>((qu.f k a1 (([bt521.1,bt523.1,bt525.1,bt527.1]:List Int))).bind fun t532=>((zb.f k t532).bind fun t535=>(if t535=true then ((qb.f k s0_0 bt527.2 a1).bind fun bt536=>(some ((([0,0,1,bt536.1]:List Int)),bt536.2))) else ((qb.f k s0_0 bt527.2 24).bind fun bt541=>(if bt541.1=0 then (if t532.length < 17592186044416 then (some ((t532++[0]),bt541.2)) else (none)) else (some (t532,bt541.2))))))))))
theorem jz.mono :∀ a0 a1 a2 k,LeO (jz.f k a0 a1 a2) (jz.f (k+1) a0 a1 a2):=by
 intro a0 a1 a2 k
 unfold jz.f
 repeat' first | (with_reducible first | apply qu.mono | apply zb.mono | apply qb.mono | exact LeO.refl _ | exact LeO.none _ | refine LeO.ite ?_ ?_ | refine LeO.bind ?_ (fun _=>?_)) | (first | apply qu.mono | apply zb.mono | apply qb.mono | exact LeO.none _ | refine LeO.ite ?_ ?_ | refine LeO.bind ?_ (fun _=>?_))
theorem jz.calls (k:Nat) (g:Nat) (s0_0:List Int) (s0_1:Int) (a1:Int) (r1:List Int) (r2:Int) (w0 w:World) (hI:IsS112 w0 w g s0_0 s0_1) (hB:Below w0.heap.size w0 w) (h:jz.f k s0_0 s0_1 a1=some (r1,r2)):
  Calls Try.prog 86 #[.pointer (some ⟨g,0,none⟩),.int .i64 a1] w fun e w'=>∃ v0_:Value,e=.returned (v0_)∧Kd.R (Kd.int .i64) 3 w' w.heap.size (fun _=>True) v0_ r1∧IsS112 w0 w' g s0_0 r2∧Below w0.heap.size w0 w'∧KeepBut w w' g none:=by
 have HI0:=am hI
 have HK:=am (KeepBut.refl w g none)
 have HL:=am hB.size
 clear hI
 have HW0:=am hB.size
 have HB:=am hB
 clear hB
 have H:((qb.f k s0_0 s0_1 2).bind fun bt521=>((qb.f k s0_0 bt521.2 a1).bind fun bt523=>((qb.f k s0_0 bt523.2 a1).bind fun bt525=>((qb.f k s0_0 bt525.2 a1).bind fun bt527=>((qu.f k a1 (([bt521.1,bt523.1,bt525.1,bt527.1]:List Int))).bind fun t532=>((zb.f k t532).bind fun t535=>(if t535=true then ((qb.f k s0_0 bt527.2 a1).bind fun bt536=>(some ((([0,0,1,bt536.1]:List Int)),bt536.2))) else ((qb.f k s0_0 bt527.2 24).bind fun bt541=>(if bt541.1=0 then (if t532.length < 17592186044416 then (some ((t532++[0]),bt541.2)) else (none)) else (some (t532,bt541.2)))))))))))=some (r1,r2):=h
 clear h;replace H:=bs H
 obtain⟨⟨t521,t522⟩,A3,H⟩:=H
 dsimp only at H
 replace H:=bs H
 obtain⟨⟨t523,t524⟩,A4,H⟩:=H
 dsimp only at H
 replace H:=bs H
 obtain⟨⟨t525,t526⟩,A5,H⟩:=H
 dsimp only at H
 replace H:=bs H
 obtain⟨⟨t527,t528⟩,A6,H⟩:=H
 dsimp only at H
 generalize hy529:(([t521,t523,t525,t527]:List Int))=y529 at H
 have Ny529:=am hy529.symm;clear hy529;replace H:=bs H;obtain⟨t532,A7,H⟩:=H;replace H:=bs H;obtain⟨t535,A8,H⟩:=H
 by_cases c9:t535=true
 ·subst c9
  rw[if_pos rfl]at H
  replace H:=bs H
  obtain⟨⟨t536,t537⟩,A10,H⟩:=H
  dsimp only at H
  generalize hy538:(([0,0,1,t536]:List Int))=y538 at H
  have Ny538:=am hy538.symm;clear hy538
  simp only[Option.some.injEq,Prod.mk.injEq]at H
  obtain⟨rfl,rfl⟩:=H
  go_enter Try.func86,Try.ntmps86
  go_wp2_with (first | ((with_reducible refine qe (f:=71) rfl ?_);refine gl 8 Try.func71 #[.pointer (some ⟨g,0,none⟩),.int .i64 2] ?_;(with_reducible refine(qb.calls k g s0_0 s0_1 2 t521 t522 w0 _ ?_ ?_ A3.out).mono ?_);(· repeat (first | (with_reducible first | exact HI0.out | apply IsS112.alloc | apply IsS112.drewN | apply IsS112.drew | apply IsS112.set_1) | exact HI0.out));(· repeat (first | (with_reducible first | exact HB.out | apply qy | apply qh | apply qv | refine zd ?_ (IsS112.ge HI0.out)) | exact HB.out));rintro e w11 ⟨rfl,hi,hb,hk⟩;refine⟨_,rfl,?_⟩;replace HK:=am (KeepBut.trans (kw HK) hk (.inl rfl));replace HB:=am (hb);replace HI0:=am (hi);(try clear hb);(try clear hk);(try clear hi)) | ((with_reducible refine qe (f:=71) rfl ?_);refine gl 11 Try.func71 #[.pointer (some ⟨g,0,none⟩),.int .i64 a1] ?_;(with_reducible refine(qb.calls k g s0_0 t522 a1 t523 t524 w0 _ ?_ ?_ A4.out).mono ?_);(· repeat (first | (with_reducible first | exact HI0.out | apply IsS112.alloc | apply IsS112.drewN | apply IsS112.drew | apply IsS112.set_1) | exact HI0.out));(· repeat (first | (with_reducible first | exact HB.out | apply qy | apply qh | apply qv | refine zd ?_ (IsS112.ge HI0.out)) | exact HB.out));rintro e w12 ⟨rfl,hi,hb,hk⟩;refine⟨_,rfl,?_⟩;replace HK:=am (KeepBut.trans (kw HK) hk (.inl rfl));replace HB:=am (hb);replace HI0:=am (hi);(try clear hb);(try clear hk);(try clear hi)) | ((with_reducible refine qe (f:=71) rfl ?_);refine gl 14 Try.func71 #[.pointer (some ⟨g,0,none⟩),.int .i64 a1] ?_;(with_reducible refine(qb.calls k g s0_0 t524 a1 t525 t526 w0 _ ?_ ?_ A5.out).mono ?_);(· repeat (first | (with_reducible first | exact HI0.out | apply IsS112.alloc | apply IsS112.drewN | apply IsS112.drew | apply IsS112.set_1) | exact HI0.out));(· repeat (first | (with_reducible first | exact HB.out | apply qy | apply qh | apply qv | refine zd ?_ (IsS112.ge HI0.out)) | exact HB.out));rintro e w13 ⟨rfl,hi,hb,hk⟩;refine⟨_,rfl,?_⟩;replace HK:=am (KeepBut.trans (kw HK) hk (.inl rfl));replace HB:=am (hb);replace HI0:=am (hi);(try clear hb);(try clear hk);(try clear hi)) | ((with_reducible refine qe (f:=71) rfl ?_);refine gl 17 Try.func71 #[.pointer (some ⟨g,0,none⟩),.int .i64 a1] ?_;(with_reducible refine(qb.calls k g s0_0 t526 a1 t527 t528 w0 _ ?_ ?_ A6.out).mono ?_);(· repeat (first | (with_reducible first | exact HI0.out | apply IsS112.alloc | apply IsS112.drewN | apply IsS112.drew | apply IsS112.set_1) | exact HI0.out));(· repeat (first | (with_reducible first | exact HB.out | apply qy | apply qh | apply qv | refine zd ?_ (IsS112.ge HI0.out)) | exact HB.out));rintro e w14 ⟨rfl,hi,hb,hk⟩;refine⟨_,rfl,?_⟩;replace HK:=am (KeepBut.trans (kw HK) hk (.inl rfl));replace HB:=am (hb);replace HI0:=am (hi);(try clear hb);(try clear hk);(try clear hi)) | ((with_reducible refine q7 (N:=18) rfl ?_);refine li 3 [t521,t523,t525,t527] ?_;intro v530 w15 ho16 hb;(first | rw[← Ny529.out]at ho16 | (simp only[Int.reduceToNat]at ho16;rw[← Ny529.out]at ho16));have HO531:=am (Kd.R_lower ho16 (jg (w:=w) (g:=g) (row:=none) (kw HK)));replace HK:=am (KeepBut.trans (kw HK) (KeepBut.of_below hb g none) (.inl rfl));replace HB:=am (zp (jr HB HI0) hb);replace HI0:=am (IsS112.below (zt HI0) hb);clear hb ho16;obtain⟨Ao17,co17,eo17⟩:=Kd.R_slice HO531.out;subst eo17) | ((with_reducible refine qe (f:=80) rfl ?_);refine gl 19 Try.func80 #[.int .i64 a1,.slice Ao17 y529.length co17] ?_;(with_reducible refine(qu.calls k a1 _ _ y529 t532 _ ?_ ?_ A7.out).mono ?_);exact Kd.C_below (Kd.R_reads' HO531.out).2.2 gs;exact(Kd.R_reads' HO531.out).2.1;rintro e w18 ⟨v533,rfl,ho0,hb⟩;refine⟨_,rfl,?_⟩;have HO534:=am (Kd.R_lower (Kd.R_new' ho0 (Kd.R_lt (wR HO531))) (jg (w:=w) (g:=g) (row:=none) (kw HK)));replace HO531:=eR HO531 (Kd.R_base ho0) hb;replace HK:=am (KeepBut.trans (kw HK) (KeepBut.of_below hb g none) (.inl rfl));replace HB:=am (zp (jr HB HI0) hb);replace HI0:=am (IsS112.below (zt HI0) hb);(try clear hb);(try clear ho0);obtain⟨Ao19,co19,eo19⟩:=Kd.R_slice HO534.out;subst eo19) | ((with_reducible refine qe (f:=79) rfl ?_);refine gl 21 Try.func79 #[.slice Ao19 t532.length co19] ?_;(with_reducible refine(zb.calls k _ _ t532 true _ ?_ ?_ A8.out).mono ?_);exact Kd.C_below (Kd.R_reads' HO534.out).2.2 gs;exact(Kd.R_reads' HO534.out).2.1;rintro e w' ⟨rfl,⟨nd,rfl⟩⟩;refine⟨_,rfl,?_⟩) | ((with_reducible refine qe (f:=71) rfl ?_);refine gl 24 Try.func71 #[.pointer (some ⟨g,0,none⟩),.int .i64 a1] ?_;(with_reducible refine(qb.calls k g s0_0 t528 a1 t536 t537 w0 _ ?_ ?_ A10.out).mono ?_);(· repeat (first | (with_reducible first | exact HI0.out | apply IsS112.alloc | apply IsS112.drewN | apply IsS112.drew | apply IsS112.set_1) | exact HI0.out));(· repeat (first | (with_reducible first | exact HB.out | apply qy | apply qh | apply qv | refine zd ?_ (IsS112.ge HI0.out)) | exact HB.out));rintro e w20 ⟨rfl,hi,hb,hk⟩;refine⟨_,rfl,?_⟩;replace HO531:=am (Kd.R_mono (Kd.R_keep (IsS112.apart (show IsS112 w0 _ g s0_0 t528 from zt HI0) (wR HO531) (by decide)) hk (fun _ h=>h.2)) (fun _ h=>h.1));replace HO534:=am (Kd.R_mono (Kd.R_keep (IsS112.apart (show IsS112 w0 _ g s0_0 t528 from zt HI0) (wR HO534) (by decide)) hk (fun _ h=>h.2)) (fun _ h=>h.1));replace HK:=am (KeepBut.trans (kw HK) hk (.inl rfl));replace HB:=am (hb);replace HI0:=am (hi);(try clear hb);(try clear hk);(try clear hi)) | ((with_reducible refine q7 (N:=25) rfl ?_);refine li 3 [0,0,1,t536] ?_;intro v539 w21 ho22 hb;(first | rw[← Ny538.out]at ho22 | (simp only[Int.reduceToNat]at ho22;rw[← Ny538.out]at ho22));have HO540:=am (Kd.R_lower (Kd.R_new' (Kd.R_new' ho22 (Kd.R_lt (wR HO531))) (Kd.R_lt (wR HO534))) (jg (w:=w) (g:=g) (row:=none) (kw HK)));replace HO531:=eR HO531 (Kd.R_base ho22) hb;replace HO534:=eR HO534 (Kd.R_base ho22) hb;replace HK:=am (KeepBut.trans (kw HK) (KeepBut.of_below hb g none) (.inl rfl));replace HB:=am (zp (jr HB HI0) hb);replace HI0:=am (IsS112.below (zt HI0) hb);clear hb ho22))
  go_ret
  exact⟨_,fq,Kd.R_below (Kd.R_mono HO540.out (fun _ hk=>trivial)) gs,zt HI0,jr HB HI0,kw HK⟩
 ·replace c9:=Bool.eq_false_iff.mpr c9
  subst c9
  rw[if_neg (show ¬ (false=true) by decide)]at H
  replace H:=bs H
  obtain⟨⟨t541,t542⟩,A23,H⟩:=H
  dsimp only at H
  by_cases c24:t541=0
  ·rw[if_pos c24]at H
   have c24b0:=beq_iff_eq.mpr c24;have c24b1:=bne_eq_false_iff_eq.mpr c24;clear c24;replace H:=ifn H;obtain⟨c25,H⟩:=H;have LMc25:=am c25;clear c25
   generalize hy543:(t532++[0]:List Int)=y543 at H
   have Ny543:=am hy543.symm;clear hy543
   simp only[Option.some.injEq,Prod.mk.injEq]at H
   obtain⟨rfl,rfl⟩:=H
   go_enter Try.func86,Try.ntmps86
   go_wp2_with (first | ((with_reducible refine qe (f:=71) rfl ?_);refine gl 8 Try.func71 #[.pointer (some ⟨g,0,none⟩),.int .i64 2] ?_;(with_reducible refine(qb.calls k g s0_0 s0_1 2 t521 t522 w0 _ ?_ ?_ A3.out).mono ?_);(· repeat (first | (with_reducible first | exact HI0.out | apply IsS112.alloc | apply IsS112.drewN | apply IsS112.drew | apply IsS112.set_1) | exact HI0.out));(· repeat (first | (with_reducible first | exact HB.out | apply qy | apply qh | apply qv | refine zd ?_ (IsS112.ge HI0.out)) | exact HB.out));rintro e w26 ⟨rfl,hi,hb,hk⟩;refine⟨_,rfl,?_⟩;replace HK:=am (KeepBut.trans (kw HK) hk (.inl rfl));replace HB:=am (hb);replace HI0:=am (hi);(try clear hb);(try clear hk);(try clear hi)) | ((with_reducible refine qe (f:=71) rfl ?_);refine gl 11 Try.func71 #[.pointer (some ⟨g,0,none⟩),.int .i64 a1] ?_;(with_reducible refine(qb.calls k g s0_0 t522 a1 t523 t524 w0 _ ?_ ?_ A4.out).mono ?_);(· repeat (first | (with_reducible first | exact HI0.out | apply IsS112.alloc | apply IsS112.drewN | apply IsS112.drew | apply IsS112.set_1) | exact HI0.out));(· repeat (first | (with_reducible first | exact HB.out | apply qy | apply qh | apply qv | refine zd ?_ (IsS112.ge HI0.out)) | exact HB.out));rintro e w27 ⟨rfl,hi,hb,hk⟩;refine⟨_,rfl,?_⟩;replace HK:=am (KeepBut.trans (kw HK) hk (.inl rfl));replace HB:=am (hb);replace HI0:=am (hi);(try clear hb);(try clear hk);(try clear hi)) | ((with_reducible refine qe (f:=71) rfl ?_);refine gl 14 Try.func71 #[.pointer (some ⟨g,0,none⟩),.int .i64 a1] ?_;(with_reducible refine(qb.calls k g s0_0 t524 a1 t525 t526 w0 _ ?_ ?_ A5.out).mono ?_);(· repeat (first | (with_reducible first | exact HI0.out | apply IsS112.alloc | apply IsS112.drewN | apply IsS112.drew | apply IsS112.set_1) | exact HI0.out));(· repeat (first | (with_reducible first | exact HB.out | apply qy | apply qh | apply qv | refine zd ?_ (IsS112.ge HI0.out)) | exact HB.out));rintro e w28 ⟨rfl,hi,hb,hk⟩;refine⟨_,rfl,?_⟩;replace HK:=am (KeepBut.trans (kw HK) hk (.inl rfl));replace HB:=am (hb);replace HI0:=am (hi);(try clear hb);(try clear hk);(try clear hi)) | ((with_reducible refine qe (f:=71) rfl ?_);refine gl 17 Try.func71 #[.pointer (some ⟨g,0,none⟩),.int .i64 a1] ?_;(with_reducible refine(qb.calls k g s0_0 t526 a1 t527 t528 w0 _ ?_ ?_ A6.out).mono ?_);(· repeat (first | (with_reducible first | exact HI0.out | apply IsS112.alloc | apply IsS112.drewN | apply IsS112.drew | apply IsS112.set_1) | exact HI0.out));(· repeat (first | (with_reducible first | exact HB.out | apply qy | apply qh | apply qv | refine zd ?_ (IsS112.ge HI0.out)) | exact HB.out));rintro e w29 ⟨rfl,hi,hb,hk⟩;refine⟨_,rfl,?_⟩;replace HK:=am (KeepBut.trans (kw HK) hk (.inl rfl));replace HB:=am (hb);replace HI0:=am (hi);(try clear hb);(try clear hk);(try clear hi)) | ((with_reducible refine q7 (N:=18) rfl ?_);refine li 3 [t521,t523,t525,t527] ?_;intro v530 w30 ho31 hb;(first | rw[← Ny529.out]at ho31 | (simp only[Int.reduceToNat]at ho31;rw[← Ny529.out]at ho31));have HO531:=am (Kd.R_lower ho31 (jg (w:=w) (g:=g) (row:=none) (kw HK)));replace HK:=am (KeepBut.trans (kw HK) (KeepBut.of_below hb g none) (.inl rfl));replace HB:=am (zp (jr HB HI0) hb);replace HI0:=am (IsS112.below (zt HI0) hb);clear hb ho31;obtain⟨Ao32,co32,eo32⟩:=Kd.R_slice HO531.out;subst eo32) | ((with_reducible refine qe (f:=80) rfl ?_);refine gl 19 Try.func80 #[.int .i64 a1,.slice Ao32 y529.length co32] ?_;(with_reducible refine(qu.calls k a1 _ _ y529 t532 _ ?_ ?_ A7.out).mono ?_);exact Kd.C_below (Kd.R_reads' HO531.out).2.2 gs;exact(Kd.R_reads' HO531.out).2.1;rintro e w33 ⟨v533,rfl,ho0,hb⟩;refine⟨_,rfl,?_⟩;have HO534:=am (Kd.R_lower (Kd.R_new' ho0 (Kd.R_lt (wR HO531))) (jg (w:=w) (g:=g) (row:=none) (kw HK)));replace HO531:=eR HO531 (Kd.R_base ho0) hb;replace HK:=am (KeepBut.trans (kw HK) (KeepBut.of_below hb g none) (.inl rfl));replace HB:=am (zp (jr HB HI0) hb);replace HI0:=am (IsS112.below (zt HI0) hb);(try clear hb);(try clear ho0);obtain⟨Ao34,co34,eo34⟩:=Kd.R_slice HO534.out;subst eo34) | ((with_reducible refine qe (f:=79) rfl ?_);refine gl 21 Try.func79 #[.slice Ao34 t532.length co34] ?_;(with_reducible refine(zb.calls k _ _ t532 false _ ?_ ?_ A8.out).mono ?_);exact Kd.C_below (Kd.R_reads' HO534.out).2.2 gs;exact(Kd.R_reads' HO534.out).2.1;rintro e w' ⟨rfl,⟨nd,rfl⟩⟩;refine⟨_,rfl,?_⟩) | ((with_reducible refine qe (f:=71) rfl ?_);refine gl 27 Try.func71 #[.pointer (some ⟨g,0,none⟩),.int .i64 24] ?_;(with_reducible refine(qb.calls k g s0_0 t528 24 t541 t542 w0 _ ?_ ?_ A23.out).mono ?_);(· repeat (first | (with_reducible first | exact HI0.out | apply IsS112.alloc | apply IsS112.drewN | apply IsS112.drew | apply IsS112.set_1) | exact HI0.out));(· repeat (first | (with_reducible first | exact HB.out | apply qy | apply qh | apply qv | refine zd ?_ (IsS112.ge HI0.out)) | exact HB.out));rintro e w35 ⟨rfl,hi,hb,hk⟩;refine⟨_,rfl,?_⟩;replace HO531:=am (Kd.R_mono (Kd.R_keep (IsS112.apart (show IsS112 w0 _ g s0_0 t528 from zt HI0) (wR HO531) (by decide)) hk (fun _ h=>h.2)) (fun _ h=>h.1));replace HO534:=am (Kd.R_mono (Kd.R_keep (IsS112.apart (show IsS112 w0 _ g s0_0 t528 from zt HI0) (wR HO534) (by decide)) hk (fun _ h=>h.2)) (fun _ h=>h.1));replace HK:=am (KeepBut.trans (kw HK) hk (.inl rfl));replace HB:=am (hb);replace HI0:=am (hi);(try clear hb);(try clear hk);(try clear hi)) | ((with_reducible refine ji (b:=.append) (xs:=#[.tmp 29,.tmp 30]) rfl ?_);at_builtin;refine Kd.R_append (Kd.int .i64) w.heap.size rfl (.tmp 29) (.tmp 30) 23 3 (.int .i64 0) 8 rfl Try.underlying23 Q1 rfl (by decide) (by omega) (.slice Ao34 t532.length co34) t532 0 [.int .i64 0] (fun k_=>some k_≠(.slice Ao32 y529.length co32:Value).ownBlock) (fun _=>False) rfl rfl ?aP (fun _ hk=>hk.elim) ?aF ?aO (Below.refl _ _) ?aS ?aL ?_;(case aP=>exact rfl);(case aF=>exact(fun k_ hk=>Kd.fresh' (Kd.R_lt (wR HO531)) k_ hk));(case aO=>exact(oR_ HO534 (fun _ hk=>hk.2)));(case aS=>exact(jg (w:=w) (g:=g) (row:=none) (kw HK)));(case aL=>have:=LMc25.out;omega);intro v544 w36 ho hb hg hat;rw[← Ny543.out]at ho;replace HO531:=am (Kd.R_after (ok:=(fun _=>True)) (wR HO531) hg hat);replace HB:=am (Zl (jr HB HI0) HL.out hb);replace HI0:=am (IsS112.grown (zt HI0) hg (IsS112.own_ne HI0.out HO534.out (by decide)));replace HK:=am (KeepBut.trans (kw HK) (KeepBut.of_grown hg g) (Kd.R_base2 HO534.out));have HO545:=am (ho);clear HO534;clear ho hb hg hat))
   go_ret
   exact⟨_,fq,Kd.R_below (Kd.R_mono HO545.out (fun _ hk=>trivial)) gs,zt HI0,jr HB HI0,kw HK⟩
  ·rw[if_neg c24]at H
   have c24b0:=beq_eq_false_iff_ne.mpr c24;have c24b1:=bne_iff_ne.mpr c24
   simp only[Option.some.injEq,Prod.mk.injEq]at H
   obtain⟨rfl,rfl⟩:=H
   go_enter Try.func86,Try.ntmps86
   go_wp2_with (first | ((with_reducible refine qe (f:=71) rfl ?_);refine gl 8 Try.func71 #[.pointer (some ⟨g,0,none⟩),.int .i64 2] ?_;(with_reducible refine(qb.calls k g s0_0 s0_1 2 t521 t522 w0 _ ?_ ?_ A3.out).mono ?_);(· repeat (first | (with_reducible first | exact HI0.out | apply IsS112.alloc | apply IsS112.drewN | apply IsS112.drew | apply IsS112.set_1) | exact HI0.out));(· repeat (first | (with_reducible first | exact HB.out | apply qy | apply qh | apply qv | refine zd ?_ (IsS112.ge HI0.out)) | exact HB.out));rintro e w37 ⟨rfl,hi,hb,hk⟩;refine⟨_,rfl,?_⟩;replace HK:=am (KeepBut.trans (kw HK) hk (.inl rfl));replace HB:=am (hb);replace HI0:=am (hi);(try clear hb);(try clear hk);(try clear hi)) | ((with_reducible refine qe (f:=71) rfl ?_);refine gl 11 Try.func71 #[.pointer (some ⟨g,0,none⟩),.int .i64 a1] ?_;(with_reducible refine(qb.calls k g s0_0 t522 a1 t523 t524 w0 _ ?_ ?_ A4.out).mono ?_);(· repeat (first | (with_reducible first | exact HI0.out | apply IsS112.alloc | apply IsS112.drewN | apply IsS112.drew | apply IsS112.set_1) | exact HI0.out));(· repeat (first | (with_reducible first | exact HB.out | apply qy | apply qh | apply qv | refine zd ?_ (IsS112.ge HI0.out)) | exact HB.out));rintro e w38 ⟨rfl,hi,hb,hk⟩;refine⟨_,rfl,?_⟩;replace HK:=am (KeepBut.trans (kw HK) hk (.inl rfl));replace HB:=am (hb);replace HI0:=am (hi);(try clear hb);(try clear hk);(try clear hi)) | ((with_reducible refine qe (f:=71) rfl ?_);refine gl 14 Try.func71 #[.pointer (some ⟨g,0,none⟩),.int .i64 a1] ?_;(with_reducible refine(qb.calls k g s0_0 t524 a1 t525 t526 w0 _ ?_ ?_ A5.out).mono ?_);(· repeat (first | (with_reducible first | exact HI0.out | apply IsS112.alloc | apply IsS112.drewN | apply IsS112.drew | apply IsS112.set_1) | exact HI0.out));(· repeat (first | (with_reducible first | exact HB.out | apply qy | apply qh | apply qv | refine zd ?_ (IsS112.ge HI0.out)) | exact HB.out));rintro e w39 ⟨rfl,hi,hb,hk⟩;refine⟨_,rfl,?_⟩;replace HK:=am (KeepBut.trans (kw HK) hk (.inl rfl));replace HB:=am (hb);replace HI0:=am (hi);(try clear hb);(try clear hk);(try clear hi)) | ((with_reducible refine qe (f:=71) rfl ?_);refine gl 17 Try.func71 #[.pointer (some ⟨g,0,none⟩),.int .i64 a1] ?_;(with_reducible refine(qb.calls k g s0_0 t526 a1 t527 t528 w0 _ ?_ ?_ A6.out).mono ?_);(· repeat (first | (with_reducible first | exact HI0.out | apply IsS112.alloc | apply IsS112.drewN | apply IsS112.drew | apply IsS112.set_1) | exact HI0.out));(· repeat (first | (with_reducible first | exact HB.out | apply qy | apply qh | apply qv | refine zd ?_ (IsS112.ge HI0.out)) | exact HB.out));rintro e w40 ⟨rfl,hi,hb,hk⟩;refine⟨_,rfl,?_⟩;replace HK:=am (KeepBut.trans (kw HK) hk (.inl rfl));replace HB:=am (hb);replace HI0:=am (hi);(try clear hb);(try clear hk);(try clear hi)) | ((with_reducible refine q7 (N:=18) rfl ?_);refine li 3 [t521,t523,t525,t527] ?_;intro v530 w41 ho42 hb;(first | rw[← Ny529.out]at ho42 | (simp only[Int.reduceToNat]at ho42;rw[← Ny529.out]at ho42));have HO531:=am (Kd.R_lower ho42 (jg (w:=w) (g:=g) (row:=none) (kw HK)));replace HK:=am (KeepBut.trans (kw HK) (KeepBut.of_below hb g none) (.inl rfl));replace HB:=am (zp (jr HB HI0) hb);replace HI0:=am (IsS112.below (zt HI0) hb);clear hb ho42;obtain⟨Ao43,co43,eo43⟩:=Kd.R_slice HO531.out;subst eo43) | ((with_reducible refine qe (f:=80) rfl ?_);refine gl 19 Try.func80 #[.int .i64 a1,.slice Ao43 y529.length co43] ?_;(with_reducible refine(qu.calls k a1 _ _ y529 t532 _ ?_ ?_ A7.out).mono ?_);exact Kd.C_below (Kd.R_reads' HO531.out).2.2 gs;exact(Kd.R_reads' HO531.out).2.1;rintro e w44 ⟨v533,rfl,ho0,hb⟩;refine⟨_,rfl,?_⟩;have HO534:=am (Kd.R_lower (Kd.R_new' ho0 (Kd.R_lt (wR HO531))) (jg (w:=w) (g:=g) (row:=none) (kw HK)));replace HO531:=eR HO531 (Kd.R_base ho0) hb;replace HK:=am (KeepBut.trans (kw HK) (KeepBut.of_below hb g none) (.inl rfl));replace HB:=am (zp (jr HB HI0) hb);replace HI0:=am (IsS112.below (zt HI0) hb);(try clear hb);(try clear ho0);obtain⟨Ao45,co45,eo45⟩:=Kd.R_slice HO534.out;subst eo45) | ((with_reducible refine qe (f:=79) rfl ?_);refine gl 21 Try.func79 #[.slice Ao45 t532.length co45] ?_;(with_reducible refine(zb.calls k _ _ t532 false _ ?_ ?_ A8.out).mono ?_);exact Kd.C_below (Kd.R_reads' HO534.out).2.2 gs;exact(Kd.R_reads' HO534.out).2.1;rintro e w' ⟨rfl,⟨nd,rfl⟩⟩;refine⟨_,rfl,?_⟩) | ((with_reducible refine qe (f:=71) rfl ?_);refine gl 27 Try.func71 #[.pointer (some ⟨g,0,none⟩),.int .i64 24] ?_;(with_reducible refine(qb.calls k g s0_0 t528 24 t541 t542 w0 _ ?_ ?_ A23.out).mono ?_);(· repeat (first | (with_reducible first | exact HI0.out | apply IsS112.alloc | apply IsS112.drewN | apply IsS112.drew | apply IsS112.set_1) | exact HI0.out));(· repeat (first | (with_reducible first | exact HB.out | apply qy | apply qh | apply qv | refine zd ?_ (IsS112.ge HI0.out)) | exact HB.out));rintro e w46 ⟨rfl,hi,hb,hk⟩;refine⟨_,rfl,?_⟩;replace HO531:=am (Kd.R_mono (Kd.R_keep (IsS112.apart (show IsS112 w0 _ g s0_0 t528 from zt HI0) (wR HO531) (by decide)) hk (fun _ h=>h.2)) (fun _ h=>h.1));replace HO534:=am (Kd.R_mono (Kd.R_keep (IsS112.apart (show IsS112 w0 _ g s0_0 t528 from zt HI0) (wR HO534) (by decide)) hk (fun _ h=>h.2)) (fun _ h=>h.1));replace HK:=am (KeepBut.trans (kw HK) hk (.inl rfl));replace HB:=am (hb);replace HI0:=am (hi);(try clear hb);(try clear hk);(try clear hi)))
   go_ret
   exact⟨_,fq,Kd.R_below (Kd.R_mono HO534.out (fun _ hk=>trivial)) gs,zt HI0,jr HB HI0,kw HK⟩
def jo.l0 :Nat→Int→List Int→Int→Option (List Int)
 | 0,_,_,_=>none
 | k+1,x0,x3,x4=>if x4 < x0 then (if x0=0 then (none) else (if (Int.tmod (wrap64 ((Int.tmod (wrap64 (x4*x4)) x0)*x4)) x0)=(wrap64 (x0 - 1)) then (if x3.length < 17592186044416 then (jo.l0 k x0 (x3++[x4]) (wrap64 (x4+1))) else (none)) else (jo.l0 k x0 x3 (wrap64 (x4+1))))) else (some x3)
def jo.f (k:Nat) (a0:Int):Option (List Int):=jo.l0 k a0 (([]:List Int)) 1
theorem jo.mono_l :∀ k,(∀ y0 y1 y2,LeO (jo.l0 k y0 y1 y2) (jo.l0 (k+1) y0 y1 y2))
 | 0=>fun _ _ _ r h=>by simp[jo.l0]at h
 | k+1=>by
  have ih0:=jo.mono_l k
  ·intro y0 y1 y2
   unfold jo.l0
   repeat' first | (with_reducible first | apply ih0 | exact LeO.refl _ | exact LeO.none _ | refine LeO.ite ?_ ?_ | refine LeO.bind ?_ (fun _=>?_)) | (first | apply ih0 | exact LeO.none _ | refine LeO.ite ?_ ?_ | refine LeO.bind ?_ (fun _=>?_))
theorem jo.mono :∀ a0 k,LeO (jo.f k a0) (jo.f (k+1) a0):=by
 intro a0 k
 have ih0:=jo.mono_l k
 unfold jo.f
 repeat' first | (with_reducible first | apply ih0 | exact LeO.refl _ | exact LeO.none _ | refine LeO.ite ?_ ?_ | refine LeO.bind ?_ (fun _=>?_)) | (first | apply ih0 | exact LeO.none _ | refine LeO.ite ?_ ?_ | refine LeO.bind ?_ (fun _=>?_))
theorem jo.calls (k:Nat) (a0:Int) (r:List Int) (w:World) (h:jo.f k a0=some r):
  Calls Try.prog 170 #[.int .i64 a0] w fun e w'=>∃ v0_:Value,e=.returned (v0_)∧Kd.R (Kd.int .i64) 3 w' w.heap.size (fun _=>True) v0_ r∧Below w.heap.size w w':=by
 have HB:=am (Below.refl w.heap.size w)
 have H:(jo.l0 k a0 (([]:List Int)) 1)=some r:=h
 clear h
 generalize hy546:(([]:List Int))=y546 at H
 have Ny546:=am hy546.symm;clear hy546;have H':=am H;clear H
 go_enter Try.func170,Try.ntmps170
 go_wp2_with (first | ((with_reducible refine q7 (N:=5) rfl ?_);refine li 3 ([]:List Int) ?_;intro v547 w2 ho3 hb;(first | rw[← Ny546.out]at ho3 | (simp only[Int.reduceToNat]at ho3;rw[← Ny546.out]at ho3));have HO548:=am (Kd.R_lower ho3 (bz HB));replace HB:=bq HB hb;clear hb ho3))
 go_loopg [3,4] k (fun kq v3 v4 w'=>∃ (x3_1:List Int) (x4_1:Int),v4=.int .i64 x4_1∧qa (jo.l0 kq a0 x3_1 x4_1=some r)∧qa (kq≤k)∧qa (Kd.R (Kd.int .i64) 3 w' w.heap.size (fun _=>True) v3 x3_1)∧qa (Below w.heap.size w w'))
 case atStart=>exact⟨(y546),(1),fr,H',⟨Nat.le_refl _⟩,⟨wR HO548⟩,⟨bw HB⟩⟩
 case round=>
  clear H';try clear c1;try clear p2
  obtain⟨x3_1,x4_1,rfl,HA,HK1,HO_3,HB⟩:=hrel
  cases gk with
  | zero=>exact absurd HA.out (by simp[jo.l0])
  | succ k1=>
   have H:=HA.out;clear HA
   simp only[jo.l0]at H
   by_cases c4:x4_1 < a0
   ·rw[if_pos c4]at H
    have c4b0:=decide_eq_true c4;clear c4;replace H:=ifm H;obtain⟨c5,H⟩:=H;have c5b0:=beq_eq_false_iff_ne.mpr c5;have c5b1:=bne_iff_ne.mpr c5
    by_cases c6:(Int.tmod (wrap64 ((Int.tmod (wrap64 (x4_1*x4_1)) a0)*x4_1)) a0)=(wrap64 (a0 - 1))
    ·rw[if_pos c6]at H
     have c6b0:=beq_iff_eq.mpr c6;have c6b1:=bne_eq_false_iff_eq.mpr c6;clear c6;replace H:=ifn H;obtain⟨c7,H⟩:=H;have LMc7:=am c7;clear c7
     generalize hy549:(x3_1++[x4_1]:List Int)=y549 at H
     have Ny549:=am hy549.symm;clear hy549;have H':=am H;clear H
     go_wp2_with (first | ((with_reducible refine ji (b:=.append) (xs:=#[.tmp 23,.tmp 25]) rfl ?_);at_builtin;refine Kd.R_append (Kd.int .i64) (w0:=w) w.heap.size rfl (.tmp 23) (.tmp 25) 23 3 (.int .i64 0) 8 rfl Try.underlying23 Q1 rfl (by decide) (by omega) u3 x3_1 x4_1 [.int .i64 x4_1] (fun _=>True) (fun _=>False) rfl rfl ?aP (fun _ hk=>hk.elim) ?aF ?aO ?aB ?aS ?aL ?_;(case aP=>exact rfl);(case aB=>exact(bw HB));(case aF=>exact(fun _ _=>trivial));(case aO=>exact(wR HO_3));(case aS=>exact(bz HB));(case aL=>have:=LMc7.out;omega);intro v550 w8 ho hb hg hat;rw[← Ny549.out]at ho;replace HB:=am (hb);have HO551:=am (ho);clear HO_3;clear ho hb hg hat))
     go_roundg k1
     case measure=>have:=HK1.out;omega
     case rel=>exact⟨(y549),(wrap64 (x4_1+1)),fr,H',⟨by have:=HK1.out;omega⟩,⟨wR HO551⟩,⟨bw HB⟩⟩
    ·rw[if_neg c6]at H
     have c6b0:=beq_eq_false_iff_ne.mpr c6;have c6b1:=bne_iff_ne.mpr c6;have H':=am H;clear H;go_wp2
     go_roundg k1
     case measure=>have:=HK1.out;omega
     case rel=>exact⟨(x3_1),(wrap64 (x4_1+1)),fr,H',⟨by have:=HK1.out;omega⟩,⟨wR HO_3⟩,⟨bw HB⟩⟩
   ·rw[if_neg c4]at H
    have c4b0:=decide_eq_false c4;clear c4;obtain rfl:=Option.some.inj H;go_wp2;go_ret
    exact⟨_,fq,wR HO_3,bw HB⟩
def j8.f (k:Nat) (a0:Int):Option (List Int×Bool):=(jd.f a0).bind fun t552=>(if t552=true then ((jo.f k a0).bind fun t553=>(if (t553.length:Int)=3 then (some (t553,true)) else (some ((([]:List Int)),false)))) else (some ((([]:List Int)),false)))
theorem j8.mono :∀ a0 k,LeO (j8.f k a0) (j8.f (k+1) a0):=by
 intro a0 k
 unfold j8.f
 repeat' first | (with_reducible first | apply jo.mono | exact LeO.refl _ | exact LeO.none _ | refine LeO.ite ?_ ?_ | refine LeO.bind ?_ (fun _=>?_)) | (first | apply jo.mono | exact LeO.none _ | refine LeO.ite ?_ ?_ | refine LeO.bind ?_ (fun _=>?_))
theorem j8.calls (k:Nat) (a0:Int) (r1:List Int) (r2:Bool) (w:World) (h:j8.f k a0=some (r1,r2)):
  Calls Try.prog 163 #[.int .i64 a0] w fun e w'=>∃ v0_:Value,e=.returned (.tuple #[v0_,.bool r2])∧Kd.R (Kd.int .i64) 3 w' w.heap.size (fun _=>True) v0_ r1∧Below w.heap.size w w':=by
 have HB:=am (Below.refl w.heap.size w)
 have H:((jd.f a0).bind fun t552=>(if t552=true then ((jo.f k a0).bind fun t553=>(if (t553.length:Int)=3 then (some (t553,true)) else (some ((([]:List Int)),false)))) else (some ((([]:List Int)),false))))=some (r1,r2):=h
 clear h;replace H:=bs H;obtain⟨t552,A2,H⟩:=H
 by_cases c3:t552=true
 ·subst c3
  rw[if_pos rfl]at H
  replace H:=bs H;obtain⟨t553,A4,H⟩:=H
  by_cases c5:(t553.length:Int)=3
  ·rw[if_pos c5]at H
   have c5b0:=beq_iff_eq.mpr c5;have c5b1:=bne_eq_false_iff_eq.mpr c5;clear c5
   simp only[Option.some.injEq,Prod.mk.injEq]at H
   obtain⟨rfl,rfl⟩:=H
   go_enter Try.func163,Try.ntmps163
   go_wp2_with (first | ((with_reducible refine qe (f:=103) rfl ?_);refine gl 6 Try.func103 #[.int .i64 a0] ?_;(with_reducible refine(jd.calls a0 true _ A2.out).mono ?_);rintro e w' ⟨rfl,⟨nd,rfl⟩⟩;refine⟨_,rfl,?_⟩) | ((with_reducible refine qe (f:=170) rfl ?_);refine gl 10 Try.func170 #[.int .i64 a0] ?_;(with_reducible refine(jo.calls k a0 t553 _ A4.out).mono ?_);rintro e w6 ⟨v554,rfl,ho0,hb⟩;refine⟨_,rfl,?_⟩;have HO555:=am (Kd.R_lower ho0 (bz HB));replace HB:=bq HB hb;(try clear hb);(try clear ho0);obtain⟨Ao7,co7,eo7⟩:=Kd.R_slice HO555.out;subst eo7))
   go_ret2
   exact⟨_,fq,wR HO555,bw HB⟩
  ·rw[if_neg c5]at H
   have c5b0:=beq_eq_false_iff_ne.mpr c5;have c5b1:=bne_iff_ne.mpr c5
   generalize hy556:(([]:List Int))=y556 at H
   have Ny556:=am hy556.symm;clear hy556
   simp only[Option.some.injEq,Prod.mk.injEq]at H
   obtain⟨rfl,rfl⟩:=H
   go_enter Try.func163,Try.ntmps163
   go_wp2_with (first | ((with_reducible refine qe (f:=103) rfl ?_);refine gl 6 Try.func103 #[.int .i64 a0] ?_;(with_reducible refine(jd.calls a0 true _ A2.out).mono ?_);rintro e w' ⟨rfl,⟨nd,rfl⟩⟩;refine⟨_,rfl,?_⟩) | ((with_reducible refine qe (f:=170) rfl ?_);refine gl 10 Try.func170 #[.int .i64 a0] ?_;(with_reducible refine(jo.calls k a0 t553 _ A4.out).mono ?_);rintro e w8 ⟨v554,rfl,ho0,hb⟩;refine⟨_,rfl,?_⟩;have HO555:=am (Kd.R_lower ho0 (bz HB));replace HB:=bq HB hb;(try clear hb);(try clear ho0);obtain⟨Ao9,co9,eo9⟩:=Kd.R_slice HO555.out;subst eo9) | ((with_reducible refine q7 (N:=14) rfl ?_);refine li 3 ([]:List Int) ?_;intro v557 w10 ho11 hb;(first | rw[← Ny556.out]at ho11 | (simp only[Int.reduceToNat]at ho11;rw[← Ny556.out]at ho11));have HO558:=am (Kd.R_lower (Kd.R_new' ho11 (Kd.R_lt (wR HO555))) (bz HB));replace HO555:=eR HO555 (Kd.R_base ho11) hb;replace HB:=bq HB hb;clear hb ho11))
   go_ret2
   exact⟨_,fq,Kd.R_below (Kd.R_mono HO558.out (fun _ hk=>trivial)) gs,bw HB⟩
 ·replace c3:=Bool.eq_false_iff.mpr c3
  subst c3
  rw[if_neg (show ¬ (false=true) by decide)]at H
  generalize hy559:(([]:List Int))=y559 at H
  have Ny559:=am hy559.symm;clear hy559
  simp only[Option.some.injEq,Prod.mk.injEq]at H
  obtain⟨rfl,rfl⟩:=H
  go_enter Try.func163,Try.ntmps163
  go_wp2_with (first | ((with_reducible refine qe (f:=103) rfl ?_);refine gl 6 Try.func103 #[.int .i64 a0] ?_;(with_reducible refine(jd.calls a0 false _ A2.out).mono ?_);rintro e w' ⟨rfl,⟨nd,rfl⟩⟩;refine⟨_,rfl,?_⟩) | ((with_reducible refine q7 (N:=8) rfl ?_);refine li 3 ([]:List Int) ?_;intro v560 w12 ho13 hb;(first | rw[← Ny559.out]at ho13 | (simp only[Int.reduceToNat]at ho13;rw[← Ny559.out]at ho13));have HO561:=am (Kd.R_lower ho13 (bz HB));replace HB:=bq HB hb;clear hb ho13))
  go_ret2
  exact⟨_,fq,wR HO561,bw HB⟩
end Go.Proofs.Ytmgbpmihbljngaa.PA
