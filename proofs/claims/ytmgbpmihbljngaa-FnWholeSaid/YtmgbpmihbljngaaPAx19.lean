-- Written by xprint.py, a program of this claim's own (over the kit's print.py)
import Derived.Test.YtmgbpmihbljngaaPAx18
namespace Go.Proofs.Ytmgbpmihbljngaa.PA
open Go.RowKit Go.Proofs.YtmgbpmihbljngaaW.PrintWords Go.Proofs.YtmgbpmihbljngaaW.PrintLast Go.Proofs.YtmgbpmihbljngaaW.PrintMore
attribute [local go_sem] Qg Qj Qp Qo j4 j3 Qh Qf
set_option linter.unusedVariables false
set_option linter.unusedSimpArgs false
def z7.l0 :Nat→Int→List (S43)→Int→List Int→Int→Option (Int×(List (S43))×Int)
 | 0,_,_,_,_,_=>none
 | k+1,x4,x5,x6,x1000,x1001=>if x6 < 12 then ((qb.f k x1000 x1001 (wrap64 (x4 - 2))).bind fun bt464=>((qb.f k x1000 bt464.2 (wrap64 (x4 - 2))).bind fun bt466=>((qb.f k x1000 bt466.2 (wrap64 (x4 - 2))).bind fun bt469=>((qb.f k x1000 bt469.2 (wrap64 (x4 - 2))).bind fun bt471=>((some (([]:List (S43)):List (S43))).bind fun y474=>(if y474.length+x5.length < 5864062014805 then ((some (y474++x5:List (S43))).bind fun y477=>((some (([(⟨(⟨1,wrap64 (2+bt464.1),wrap64 (2+bt466.1)⟩:S41)⟩:S43),(⟨(⟨1,wrap64 (2+bt469.1),wrap64 (2+bt471.1)⟩:S41)⟩:S43)]:List (S43)):List (S43))).bind fun y480=>(if y477.length+y480.length < 5864062014805 then ((some (y477++y480:List (S43))).bind fun y483=>((zm.f k x4 y483).bind fun t486=>(if t486=true then (some (x4,y483,bt471.2)) else (z7.l0 k x4 x5 (wrap64 (x6+1)) x1000 bt471.2)))) else (none)))) else (none))))))) else ((Qk.f k x1000 x1001 x4).bind fun bt450=>((Qk.f k x1000 bt450.2.2.2 x4).bind fun bt454=>((some (([(⟨(⟨bt450.1,bt450.2.1,bt450.2.2.1⟩:S41)⟩:S43),(⟨(⟨bt454.1,bt454.2.1,bt454.2.2.1⟩:S41)⟩:S43)]:List (S43)):List (S43))).bind fun y458=>(if x5.length+y458.length < 5864062014805 then (some (x4,(x5++y458),bt454.2.2.2)) else (none)))))
def z7.f (k:Nat) (s0_0:List Int) (s0_1:Int):Option (Int×(List (S43))×Int):=(Qm.f k s0_0 s0_1).bind fun bt445=>(z7.l0 k bt445.1 (([(⟨(⟨1,0,0⟩:S41)⟩:S43),(⟨(⟨0,1,0⟩:S41)⟩:S43),(⟨(⟨0,0,1⟩:S41)⟩:S43),(⟨(⟨1,1,1⟩:S41)⟩:S43)]:List (S43))) 0 s0_0 bt445.2)
theorem z7.mono_l :∀ k,(∀ y0 y1 y2 y3 y4,LeO (z7.l0 k y0 y1 y2 y3 y4) (z7.l0 (k+1) y0 y1 y2 y3 y4))
 | 0=>fun _ _ _ _ _ r h=>by simp[z7.l0]at h
 | k+1=>by
  have ih0:=z7.mono_l k
  ·intro y0 y1 y2 y3 y4
   unfold z7.l0
   repeat' first | (with_reducible first | apply ih0 | apply zm.mono | apply qb.mono | apply Qk.mono | apply Qm.mono | exact LeO.refl _ | exact LeO.none _ | refine LeO.ite ?_ ?_ | refine LeO.bind ?_ (fun _=>?_)) | (first | apply ih0 | apply zm.mono | apply qb.mono | apply Qk.mono | apply Qm.mono | exact LeO.none _ | refine LeO.ite ?_ ?_ | refine LeO.bind ?_ (fun _=>?_))
theorem z7.mono :∀ a0 a1 k,LeO (z7.f k a0 a1) (z7.f (k+1) a0 a1):=by
 intro a0 a1 k
 have ih0:=z7.mono_l k
 unfold z7.f
 repeat' first | (with_reducible first | apply ih0 | apply zm.mono | apply qb.mono | apply Qk.mono | apply Qm.mono | exact LeO.refl _ | exact LeO.none _ | refine LeO.ite ?_ ?_ | refine LeO.bind ?_ (fun _=>?_)) | (first | apply ih0 | apply zm.mono | apply qb.mono | apply Qk.mono | apply Qm.mono | exact LeO.none _ | refine LeO.ite ?_ ?_ | refine LeO.bind ?_ (fun _=>?_))
def z7.T8 :Bool×List (List Nat×List Nat):=(true,[([],[]),([],[]),([0,1],[0,1]),([],[]),([],[]),([3,4],[3,4]),([2,5,2],[2,5]),([6,6,0,1,2,3,4,5,6],[6])])
def z7.B8 :List Nat:=[0,0,3,0,0,24,63,127]
theorem z7.tab8 :rtab .any (Ju Try.f70 8)=z7.T8:=by kernel_rfl
theorem z7.bits8 :Qt z7.T8.2 z7.B8=true:=by kernel_rfl
set_option maxHeartbeats 8000000 in
set_option maxRecDepth 100000 in
theorem z7.calls (k:Nat) (g:Nat) (s0_0:List Int) (s0_1:Int) (r1:Int) (r2:List (S43)) (r3:Int) (w0 w:World) (hI:IsS112 w0 w g s0_0 s0_1) (hB:Below w0.heap.size w0 w) (h:z7.f k s0_0 s0_1=some (r1,r2,r3)):
  Calls Try.prog 70 #[.pointer (some ⟨g,0,none⟩)] w fun e w'=>∃ v1_:Value,e=.returned (.tuple #[.int .i64 r1,v1_])∧Kd.R k43 43 w' w.heap.size (fun _=>True) v1_ r2∧IsS112 w0 w' g s0_0 r3∧Below w0.heap.size w0 w'∧KeepBut w w' g none:=by
 have hu41:=Try.underlying41
 have hu43:=Try.underlying43
 have HI0:=am hI
 have HK:=am (KeepBut.refl w g none)
 have HL:=am hB.size
 clear hI
 have HW0:=am hB.size
 have HB:=am hB
 clear hB
 have H:((Qm.f k s0_0 s0_1).bind fun bt445=>(z7.l0 k bt445.1 (([(⟨(⟨1,0,0⟩:S41)⟩:S43),(⟨(⟨0,1,0⟩:S41)⟩:S43),(⟨(⟨0,0,1⟩:S41)⟩:S43),(⟨(⟨1,1,1⟩:S41)⟩:S43)]:List (S43))) 0 s0_0 bt445.2))=some (r1,r2,r3):=h
 clear h;replace H:=bs H
 obtain⟨⟨t445,t446⟩,A2,H⟩:=H
 dsimp only at H
 generalize hy447:(([(⟨(⟨1,0,0⟩:S41)⟩:S43),(⟨(⟨0,1,0⟩:S41)⟩:S43),(⟨(⟨0,0,1⟩:S41)⟩:S43),(⟨(⟨1,1,1⟩:S41)⟩:S43)]:List (S43)))=y447 at H
 have Ny447:=am hy447.symm;clear hy447;have H':=am H;clear H
 go_enter Try.func70,Try.ntmps70
 go_wp2_with (first | ((with_reducible refine qe (f:=117) rfl ?_);refine gl 11 Try.func117 #[.pointer (some ⟨g,0,none⟩)] ?_;(with_reducible refine(Qm.calls k g s0_0 s0_1 t445 t446 w0 _ ?_ ?_ A2.out).mono ?_);(· repeat (first | (with_reducible first | exact HI0.out | apply IsS112.alloc | apply IsS112.drewN | apply IsS112.drew | apply IsS112.set_1) | exact HI0.out));(· repeat (first | (with_reducible first | exact HB.out | apply qy | apply qh | apply qv | refine zd ?_ (IsS112.ge HI0.out)) | exact HB.out));rintro e w3 ⟨rfl,hi,hb,hk⟩;refine⟨_,rfl,?_⟩;replace HK:=am (KeepBut.trans (kw HK) hk (.inl rfl));replace HB:=am (hb);replace HI0:=am (hi);(try clear hb);(try clear hk);(try clear hi)) | ((with_reducible refine q7 (N:=20) rfl ?_);refine Kd.R_lit k43 _ 43 ?hg (N:=20) ?hd (xs:=([(⟨(⟨1,0,0⟩:S41)⟩:S43),(⟨(⟨0,1,0⟩:S41)⟩:S43),(⟨(⟨0,0,1⟩:S41)⟩:S43),(⟨(⟨1,1,1⟩:S41)⟩:S43)]:List (S43))) (inner:=[.int .i64 1,.int .i64 0,.int .i64 0,.int .i64 0,.int .i64 1,.int .i64 0,.int .i64 0,.int .i64 0,.int .i64 1,.int .i64 1,.int .i64 1,.int .i64 1]) (ok:=fun _=>True) (okp:=fun _=>True) ?hr ?hp (fun _ hk=>hk) trivial (Below.refl _ _) (Nat.le_refl _) (by simp) ?_;(case hd=>rfl);(case hg=>rfl);(case hr=>first | (go_simp;done) | (go_simp;rfl));(case hp=>exact(Reps.c3 (show Kd.M k43 _ _ _ (⟨(⟨1,0,0⟩:S41)⟩:S43) [.int .i64 1,.int .i64 0,.int .i64 0] from (Zd _ _ _ (⟨(⟨1,0,0⟩:S41)⟩:S43) )) (Reps.c3 (show Kd.M k43 _ _ _ (⟨(⟨0,1,0⟩:S41)⟩:S43) [.int .i64 0,.int .i64 1,.int .i64 0] from (Zd _ _ _ (⟨(⟨0,1,0⟩:S41)⟩:S43) )) (Reps.c3 (show Kd.M k43 _ _ _ (⟨(⟨0,0,1⟩:S41)⟩:S43) [.int .i64 0,.int .i64 0,.int .i64 1] from (Zd _ _ _ (⟨(⟨0,0,1⟩:S41)⟩:S43) )) (Reps.c3 (show Kd.M k43 _ _ _ (⟨(⟨1,1,1⟩:S41)⟩:S43) [.int .i64 1,.int .i64 1,.int .i64 1] from (Zd _ _ _ (⟨(⟨1,1,1⟩:S41)⟩:S43) )) (Reps.none _ _))))));intro v448 w4 ho5 hb hg_ hnew_;clear hg_ hnew_;(first | rw[← Ny447.out]at ho5 | (simp only[Int.reduceToNat]at ho5;rw[← Ny447.out]at ho5));have HO449:=am (Kd.R_lower ho5 (jg (w:=w) (g:=g) (row:=none) (kw HK)));replace HK:=am (KeepBut.trans (kw HK) (KeepBut.of_below hb g none) (.inl rfl));replace HB:=am (zp (jr HB HI0) hb);replace HI0:=am (IsS112.below (zt HI0) hb);clear hb ho5))
 go_loopg [6] k (fun kq v6 w'=>∃ (x6_1:Int) (x1001_1:Int),v6=.int .i64 x6_1∧qa (z7.l0 kq t445 y447 x6_1 s0_0 x1001_1=some (r1,r2,r3))∧qa (kq≤k)∧qa (Kd.R k43 43 w' w.heap.size (fun _=>True) v448 y447)∧qa (IsS112 w0 w' g s0_0 x1001_1)∧qa (KeepBut w w' g none)∧qa (Below w0.heap.size w0 w'))
 case atStart=>exact⟨(0),(t446),fr,H',⟨Nat.le_refl _⟩,⟨wR HO449⟩,⟨zt HI0⟩,⟨kw HK⟩,⟨jr HB HI0⟩⟩
 case round=>
  clear H';try clear c1;try clear p2;try clear c3
  obtain⟨x6_1,x1001_1,rfl,HA,HK1,HO_5,HI0,HK,HB⟩:=hrel
  cases gk with
  | zero=>exact absurd HA.out (by simp[z7.l0])
  | succ k1=>
   have H:=HA.out;clear HA
   simp only[z7.l0]at H
   by_cases c6:x6_1 < 12
   ·rw [if_pos c6] at H
    have c6b0:=decide_eq_true c6;clear c6;replace H:=bs H
    obtain⟨⟨t464,t465⟩,A7,H⟩:=H
    dsimp only at H
    replace H:=bs H
    obtain⟨⟨t466,t467⟩,A8,H⟩:=H
    dsimp only at H
    replace H:=bs H
    obtain⟨⟨t469,t470⟩,A9,H⟩:=H
    dsimp only at H
    replace H:=bs H
    obtain⟨⟨t471,t472⟩,A10,H⟩:=H
    dsimp only at H
    replace H:=bsy H;obtain⟨y474,Ny474,H⟩:=H;replace H:=ifn H;obtain⟨c11,H⟩:=H;have LMc11:=am c11;clear c11;replace H:=bsy H;obtain⟨y477,Ny477,H⟩:=H;replace H:=bsy H;obtain⟨y480,Ny480,H⟩:=H;replace H:=ifn H
    obtain⟨c12,H⟩:=H;have LMc12:=am c12;clear c12;replace H:=bsy H;obtain⟨y483,Ny483,H⟩:=H;replace H:=bs H;obtain⟨t486,A13,H⟩:=H
    have HQ_:=am H;clear H
    try go_wp2_with (first | ((with_reducible refine qe (f:=71) rfl ?_);refine gl 28 Try.func71 #[.pointer (some ⟨g,0,none⟩),.int .i64 (wrap64 (t445 - 2))] ?_;(with_reducible refine(qb.calls k1 g s0_0 x1001_1 (wrap64 (t445 - 2)) t464 t465 w0 _ ?side1 ?side2 A7.out).mono ?_);(case side1=>repeat (first | (with_reducible first | exact HI0.out | apply IsS112.alloc | apply IsS112.drewN | apply IsS112.drew | apply IsS112.set_1) | exact HI0.out));(case side2=>repeat (first | (with_reducible first | exact HB.out | apply qy | apply qh | apply qv | refine zd ?_ (IsS112.ge HI0.out)) | exact HB.out));rintro e w15 ⟨rfl,hi,hb,hk⟩;refine⟨_,rfl,?_⟩;replace HO_5:=am (Kd.R_mono (Kd.R_keep (IsS112.apart (show IsS112 w0 _ g s0_0 x1001_1 from zt HI0) (wR HO_5) (by decide)) hk (fun _ h=>h.2)) (fun _ h=>h.1));replace HK:=am (KeepBut.trans (kw HK) hk (.inl rfl));replace HB:=am (hb);replace HI0:=am (hi);(try clear hb);(try clear hb2);(try clear hk);(try clear hi)) | ((with_reducible refine qe (f:=71) rfl ?_);refine gl 33 Try.func71 #[.pointer (some ⟨g,0,none⟩),.int .i64 (wrap64 (t445 - 2))] ?_;(with_reducible refine(qb.calls k1 g s0_0 t465 (wrap64 (t445 - 2)) t466 t467 w0 _ ?side1 ?side2 A8.out).mono ?_);(case side1=>repeat (first | (with_reducible first | exact HI0.out | apply IsS112.alloc | apply IsS112.drewN | apply IsS112.drew | apply IsS112.set_1) | exact HI0.out));(case side2=>repeat (first | (with_reducible first | exact HB.out | apply qy | apply qh | apply qv | refine zd ?_ (IsS112.ge HI0.out)) | exact HB.out));rintro e w16 ⟨rfl,hi,hb,hk⟩;refine⟨_,rfl,?_⟩;replace HO_5:=am (Kd.R_mono (Kd.R_keep (IsS112.apart (show IsS112 w0 _ g s0_0 t465 from zt HI0) (wR HO_5) (by decide)) hk (fun _ h=>h.2)) (fun _ h=>h.1));replace HK:=am (KeepBut.trans (kw HK) hk (.inl rfl));replace HB:=am (hb);replace HI0:=am (hi);(try clear hb);(try clear hb2);(try clear hk);(try clear hi)) | ((with_reducible refine q7 (N:=7) rfl ?_);refine xe_ 7 43 #[.int .i64 0,.int .i64 0,.int .i64 0] ?_;intro gb468 hg w17 hbox hb;replace HO_5:=am (Kd.R_below (Kd.R_elderB (wR HO_5) gb468 (Nat.le_of_eq hg.symm)) hb);replace HB:=am (zp (jr HB HI0) hb);have BK468:=am (hbox);have GW468:=am ((by rw[hg];exact(jg (w:=w) (g:=g) (row:=none) (kw HK)):w.heap.size≤gb468));have GE468:=am ((Nat.le_trans HW0.out (by rw[hg];exact(jg (w:=w) (g:=g) (row:=none) (kw HK)):w.heap.size≤gb468):w0.heap.size≤gb468));replace HK:=am (KeepBut.trans (kw HK) (KeepBut.of_below hb g none) (.inl rfl));have NB0_468:=am ((by rw[hg];exact Nat.ne_of_lt (IsS112.lt (show IsS112 w0 _ g s0_0 t467 from zt HI0)):g≠gb468));have NB468_0:=am ((by rw[hg];exact Nat.ne_of_gt (IsS112.lt (show IsS112 w0 _ g s0_0 t467 from zt HI0)):gb468≠g));replace HI0:=am (IsS112.below (zt HI0) hb);clear hb hbox hg;have hnb18:=NB468_0.out;have hnc18:=NB0_468.out;have hcz19_0:w17.cell? ⟨gb468,0,none⟩=some (.int .i64 0):=(qf BK468.out 0).trans rfl;have hcz19_1:w17.cell? ⟨gb468,1,none⟩=some (.int .i64 0):=(qf BK468.out 1).trans rfl;have hcz19_2:w17.cell? ⟨gb468,2,none⟩=some (.int .i64 0):=(qf BK468.out 2).trans rfl;have hfz19_0:=qz BK468.out 0;have hfz19_1:=qz BK468.out 1;have hfz19_2:=qz BK468.out 2) | ((with_reducible refine qe (f:=71) rfl ?_);refine gl 40 Try.func71 #[.pointer (some ⟨g,0,none⟩),.int .i64 (wrap64 (t445 - 2))] ?_;(with_reducible refine(qb.calls k1 g s0_0 t467 (wrap64 (t445 - 2)) t469 t470 w0 _ ?side1 ?side2 A9.out).mono ?_);(case side1=>repeat (first | (with_reducible first | exact HI0.out | apply IsS112.alloc | apply IsS112.drewN | apply IsS112.drew | apply IsS112.set_1 | refine IsS112.far ?_ NB0_468.out _) | exact HI0.out));(case side2=>repeat (first | (with_reducible first | exact HB.out | apply qy | apply qh | apply qv | refine zd ?_ (IsS112.ge HI0.out) | refine zd ?_ GE468.out) | exact HB.out));rintro e w20 ⟨rfl,hi,hb,hk⟩;refine⟨_,rfl,?_⟩;replace HO_5:=am (Kd.R_mono (Kd.R_keep (IsS112.apart (show IsS112 w0 _ g s0_0 t467 from zt HI0) (by (with_reducible repeat (first | apply Kd.R_alloc | apply Kd.R_drewN | apply Kd.R_drew));exact(Kd.R_mono (Kd.R_far (p:=⟨gb468,2,none⟩) (Kd.R_far (p:=⟨gb468,1,none⟩) (Kd.R_far (p:=⟨gb468,0,none⟩) (Kd.R_mono HO_5.out (fun k_ hk=>(⟨hk,hk.2⟩:_∧k_≠gb468))) (fun _ hk=>hk.2) (.int .i64 1)) (fun _ hk=>hk.2) (.int .i64 (wrap64 (2+t464)))) (fun _ hk=>hk.2) (.int .i64 (wrap64 (2+t466)))) (fun _ h_=>h_.1))) (by decide)) hk (fun _ h=>h.2)) (fun _ h=>h.1));replace BK468:=am (KeepBut.blk hk (g':=gb468) (o:=.cells #[.int .i64 1,.int .i64 (wrap64 (2+t464)),.int .i64 (wrap64 (2+t466))] 43 (0,0)) (by (with_reducible repeat (first | refine zc ?_ _ | refine ze ?_ | refine za ?_ _));refine Ql (cs:=#[.int .i64 1,.int .i64 (wrap64 (2+t464)),.int .i64 0]) ?_ 2 _ rfl;(with_reducible repeat (first | refine zc ?_ _ | refine ze ?_ | refine za ?_ _));refine Ql (cs:=#[.int .i64 1,.int .i64 0,.int .i64 0]) ?_ 1 _ rfl;(with_reducible repeat (first | refine zc ?_ _ | refine ze ?_ | refine za ?_ _));refine Ql (cs:=#[.int .i64 0,.int .i64 0,.int .i64 0]) ?_ 0 _ rfl;(with_reducible repeat (first | refine zc ?_ _ | refine ze ?_ | refine za ?_ _));exact BK468.out) NB468_0.out (by simp));replace HK:=am (KeepBut.trans (kx_ HK) hk (.inl rfl));replace HB:=am (hb);replace HI0:=am (hi);(try clear hb);(try clear hb2);(try clear hk);(try clear hi)) | ((with_reducible refine qe (f:=71) rfl ?_);refine gl 45 Try.func71 #[.pointer (some ⟨g,0,none⟩),.int .i64 (wrap64 (t445 - 2))] ?_;(with_reducible refine(qb.calls k1 g s0_0 t470 (wrap64 (t445 - 2)) t471 t472 w0 _ ?side1 ?side2 A10.out).mono ?_);(case side1=>repeat (first | (with_reducible first | exact HI0.out | apply IsS112.alloc | apply IsS112.drewN | apply IsS112.drew | apply IsS112.set_1 | refine IsS112.far ?_ NB0_468.out _) | exact HI0.out));(case side2=>repeat (first | (with_reducible first | exact HB.out | apply qy | apply qh | apply qv | refine zd ?_ (IsS112.ge HI0.out) | refine zd ?_ GE468.out) | exact HB.out));rintro e w21 ⟨rfl,hi,hb,hk⟩;refine⟨_,rfl,?_⟩;replace HO_5:=am (Kd.R_mono (Kd.R_keep (IsS112.apart (show IsS112 w0 _ g s0_0 t470 from zt HI0) (wR HO_5) (by decide)) hk (fun _ h=>h.2)) (fun _ h=>h.1));replace BK468:=am (KeepBut.blk hk (g':=gb468) (o:=.cells #[.int .i64 1,.int .i64 (wrap64 (2+t464)),.int .i64 (wrap64 (2+t466))] 43 (0,0)) (pk_ BK468) NB468_0.out (by simp));replace HK:=am (KeepBut.trans (kx_ HK) hk (.inl rfl));replace HB:=am (hb);replace HI0:=am (hi);(try clear hb);(try clear hb2);(try clear hk);(try clear hi)) | ((with_reducible refine q7 (N:=8) rfl ?_);refine xe_ 8 43 #[.int .i64 0,.int .i64 0,.int .i64 0] ?_;intro gb473 hg w22 hbox hb;replace HO_5:=am (Kd.R_below (Kd.R_elderB (wR HO_5) gb473 (Nat.le_of_eq hg.symm)) hb);replace HB:=am (zp (jr HB HI0) hb);have BK473:=am (hbox);have GW473:=am ((by rw[hg];exact(jg (w:=w) (g:=g) (row:=none) (kx_ HK)):w.heap.size≤gb473));have GE473:=am ((Nat.le_trans HW0.out (by rw[hg];exact(jg (w:=w) (g:=g) (row:=none) (kx_ HK)):w.heap.size≤gb473):w0.heap.size≤gb473));replace HK:=am (KeepBut.trans (kx_ HK) (KeepBut.of_below hb g none) (.inl rfl));have NB468_473:=am ((by rw[hg];exact Nat.ne_of_lt (Za (g:=gb468) (o:=.cells #[.int .i64 1,.int .i64 (wrap64 (2+t464)),.int .i64 (wrap64 (2+t466))] 43 (0,0)) (pk_ BK468)):gb468≠gb473));have NB473_468:=am ((by rw[hg];exact Nat.ne_of_gt (Za (g:=gb468) (o:=.cells #[.int .i64 1,.int .i64 (wrap64 (2+t464)),.int .i64 (wrap64 (2+t466))] 43 (0,0)) (pk_ BK468)):gb473≠gb468));replace BK468:=am (jx (g:=gb468) (o:=.cells #[.int .i64 1,.int .i64 (wrap64 (2+t464)),.int .i64 (wrap64 (2+t466))] 43 (0,0)) (pk_ BK468) hb);have NB0_473:=am ((by rw[hg];exact Nat.ne_of_lt (IsS112.lt (show IsS112 w0 _ g s0_0 t472 from zt HI0)):g≠gb473));have NB473_0:=am ((by rw[hg];exact Nat.ne_of_gt (IsS112.lt (show IsS112 w0 _ g s0_0 t472 from zt HI0)):gb473≠g));replace HI0:=am (IsS112.below (zt HI0) hb);clear hb hbox hg;have hnb23:=NB473_468.out;have hnc23:=NB468_473.out;have hnb24:=NB473_0.out;have hnc24:=NB0_473.out;have hcz25_0:w22.cell? ⟨gb473,0,none⟩=some (.int .i64 0):=(qf BK473.out 0).trans rfl;have hcz25_1:w22.cell? ⟨gb473,1,none⟩=some (.int .i64 0):=(qf BK473.out 1).trans rfl;have hcz25_2:w22.cell? ⟨gb473,2,none⟩=some (.int .i64 0):=(qf BK473.out 2).trans rfl;have hfz25_0:=qz BK473.out 0;have hfz25_1:=qz BK473.out 1;have hfz25_2:=qz BK473.out 2;obtain⟨Ao26,co26,eo26⟩:=Kd.R_slice HO_5.out;subst eo26))
    have n0_:qa (Kd.R k43 43 (((w22.setCell ⟨gb473,0,none⟩ (.int .i64 1)).setCell ⟨gb473,1,none⟩ (.int .i64 (wrap64 (2+t469)))).setCell ⟨gb473,2,none⟩ (.int .i64 (wrap64 (2+t471)))) w.heap.size (fun k_=>k_≠gb468∧k_≠gb473) (.slice Ao26 y447.length co26) y447):=⟨by (with_reducible repeat (first | apply Kd.R_alloc | apply Kd.R_drewN | apply Kd.R_drew));exact Kd.R_mono (Kd.R_far (p:=⟨gb473,2,none⟩) (Kd.R_far (p:=⟨gb473,1,none⟩) (Kd.R_far (p:=⟨gb473,0,none⟩) (Kd.R_mono HO_5.out (fun k_ hk=>(⟨hk,hk.2⟩:_∧k_≠gb473))) (fun _ hk=>hk.2) (.int .i64 1)) (fun _ hk=>hk.2) (.int .i64 (wrap64 (2+t469)))) (fun _ hk=>hk.2) (.int .i64 (wrap64 (2+t471)))) (fun _ hk=>⟨hk.1.1.2,hk.1.2⟩)⟩
    have n1_:qa ((((w22.setCell ⟨gb473,0,none⟩ (.int .i64 1)).setCell ⟨gb473,1,none⟩ (.int .i64 (wrap64 (2+t469)))).setCell ⟨gb473,2,none⟩ (.int .i64 (wrap64 (2+t471)))).heap[gb468]? =some (.cells #[.int .i64 1,.int .i64 (wrap64 (2+t464)),.int .i64 (wrap64 (2+t466))] 43 (0,0))):=⟨by (with_reducible repeat (first | refine zc ?_ _ | refine ze ?_ | refine za ?_ _));refine Zh ?_ NB468_473.out _;(with_reducible repeat (first | refine zc ?_ _ | refine ze ?_ | refine za ?_ _));refine Zh ?_ NB468_473.out _;(with_reducible repeat (first | refine zc ?_ _ | refine ze ?_ | refine za ?_ _));refine Zh ?_ NB468_473.out _;(with_reducible repeat (first | refine zc ?_ _ | refine ze ?_ | refine za ?_ _));exact BK468.out⟩
    have n2_:qa ((((w22.setCell ⟨gb473,0,none⟩ (.int .i64 1)).setCell ⟨gb473,1,none⟩ (.int .i64 (wrap64 (2+t469)))).setCell ⟨gb473,2,none⟩ (.int .i64 (wrap64 (2+t471)))).heap[gb473]? =some (.cells #[.int .i64 1,.int .i64 (wrap64 (2+t469)),.int .i64 (wrap64 (2+t471))] 43 (0,0))):=⟨by (with_reducible repeat (first | refine zc ?_ _ | refine ze ?_ | refine za ?_ _));refine Ql (cs:=#[.int .i64 1,.int .i64 (wrap64 (2+t469)),.int .i64 0]) ?_ 2 _ rfl;(with_reducible repeat (first | refine zc ?_ _ | refine ze ?_ | refine za ?_ _));refine Ql (cs:=#[.int .i64 1,.int .i64 0,.int .i64 0]) ?_ 1 _ rfl;(with_reducible repeat (first | refine zc ?_ _ | refine ze ?_ | refine za ?_ _));refine Ql (cs:=#[.int .i64 0,.int .i64 0,.int .i64 0]) ?_ 0 _ rfl;(with_reducible repeat (first | refine zc ?_ _ | refine ze ?_ | refine za ?_ _));exact BK473.out⟩
    have n3_:qa (IsS112 w0 (((w22.setCell ⟨gb473,0,none⟩ (.int .i64 1)).setCell ⟨gb473,1,none⟩ (.int .i64 (wrap64 (2+t469)))).setCell ⟨gb473,2,none⟩ (.int .i64 (wrap64 (2+t471)))) g s0_0 t472):=⟨zt HI0⟩
    have n4_:qa (KeepBut w (((w22.setCell ⟨gb473,0,none⟩ (.int .i64 1)).setCell ⟨gb473,1,none⟩ (.int .i64 (wrap64 (2+t469)))).setCell ⟨gb473,2,none⟩ (.int .i64 (wrap64 (2+t471)))) g none):=⟨kx_ HK⟩
    have n5_:qa (Below w0.heap.size w0 (((w22.setCell ⟨gb473,0,none⟩ (.int .i64 1)).setCell ⟨gb473,1,none⟩ (.int .i64 (wrap64 (2+t469)))).setCell ⟨gb473,2,none⟩ (.int .i64 (wrap64 (2+t471))))):=⟨jr HB HI0⟩
    (try clear HO_5)
    (try clear BK468)
    (try clear BK473)
    (try clear HI0)
    (try clear HK)
    (try clear HB)
    generalize (((w22.setCell ⟨gb473,0,none⟩ (.int .i64 1)).setCell ⟨gb473,1,none⟩ (.int .i64 (wrap64 (2+t469)))).setCell ⟨gb473,2,none⟩ (.int .i64 (wrap64 (2+t471))))=w27 at n0_ n1_ n2_ n3_ n4_ n5_ ⊢
    have HO_5:=n0_
    have BK468:=n1_
    have BK473:=n2_
    have HI0:=n3_
    have HK:=n4_
    have HB:=n5_
    clear n0_ n1_ n2_ n3_ n4_ n5_
    replace HO_5:=am (Kd.R_drew HO_5.out)
    replace BK468:=am (ze BK468.out)
    replace BK473:=am (ze BK473.out)
    replace HI0:=am (IsS112.drew HI0.out)
    replace HK:=am (qdp HK.out)
    replace HB:=am (qv HB.out)
    refine st 8 (fun w'=>w'.cell? ⟨gb468,0,none⟩=some (.int .i64 1)∧w'.cell? ⟨gb468,1,none⟩=some (.int .i64 (wrap64 (2+t464)))∧w'.cell? ⟨gb468,2,none⟩=some (.int .i64 (wrap64 (2+t466)))∧w'.cell? ⟨gb473,0,none⟩=some (.int .i64 1)∧w'.cell? ⟨gb473,1,none⟩=some (.int .i64 (wrap64 (2+t469)))∧w'.cell? ⟨gb473,2,none⟩=some (.int .i64 (wrap64 (2+t471)))) [] z7.tab8 z7.bits8 (⟨(qf BK468.out 0).trans rfl,(qf BK468.out 1).trans rfl,(qf BK468.out 2).trans rfl,(qf BK473.out 0).trans rfl,(qf BK473.out 1).trans rfl,(qf BK473.out 2).trans rfl⟩) fun hHeld HT_ HW_=>?_
    generalize w27.drew=w28 at HO_5 BK468 BK473 HI0 HK HB hHeld ⊢
    refine pz 1 50 HT_ ?_;refine tk 3 52 HT_ HW_ hHeld ?_;refine tk 4 53 HT_ HW_ hHeld ?_
    refine join_ (σ:=Value×Value×Value) 2 #[true,true,true,true,true,true,false,false] (fun s_=>[(49,s_.1),(51,s_.2.1),(54,s_.2.2)]) (fun s_ w'=>(w'.cell? ⟨gb468,0,none⟩=some (.int .i64 1)∧w'.cell? ⟨gb468,1,none⟩=some (.int .i64 (wrap64 (2+t464)))∧w'.cell? ⟨gb468,2,none⟩=some (.int .i64 (wrap64 (2+t466)))∧w'.cell? ⟨gb473,0,none⟩=some (.int .i64 1)∧w'.cell? ⟨gb473,1,none⟩=some (.int .i64 (wrap64 (2+t469)))∧w'.cell? ⟨gb473,2,none⟩=some (.int .i64 (wrap64 (2+t471))))∧(Kd.R k43 43 w' w.heap.size (fun k_=>some k_≠(s_.2.2:Value).ownBlock∧some k_≠(.slice Ao26 y447.length co26:Value).ownBlock∧k_≠gb468∧k_≠gb473) s_.2.1 y477)∧(Kd.R k43 43 w' w.heap.size (fun k_=>some k_≠(s_.2.1:Value).ownBlock∧some k_≠(.slice Ao26 y447.length co26:Value).ownBlock∧k_≠gb468∧k_≠gb473) s_.2.2 y480)∧(Kd.R k43 43 w' w.heap.size (fun k_=>some k_≠(s_.2.1:Value).ownBlock∧some k_≠(s_.2.2:Value).ownBlock∧k_≠gb468∧k_≠gb473) (.slice Ao26 y447.length co26) y447)∧(w'.heap[gb468]? =some (.cells #[.int .i64 1,.int .i64 (wrap64 (2+t464)),.int .i64 (wrap64 (2+t466))] 43 (0,0)))∧(w'.heap[gb473]? =some (.cells #[.int .i64 1,.int .i64 (wrap64 (2+t469)),.int .i64 (wrap64 (2+t471))] 43 (0,0)))∧(IsS112 w0 w' g s0_0 t472)∧(KeepBut w w' g none)∧(Below w0.heap.size w0 w')) ?_ ?_
    rotate_left
    ·intro hCont
     refine two_ (i:=0) (j:=5) (Ni:=some 49) (Nj:=some 54) #[true,true,false,true,true,false,false,false] #[false,true,false,true,true,true,false,false] rfl rfl rfl rfl (qhy HT_.out (by kernel_rfl)) (by decide) (by decide) (fun K hK=>?_) (fun K hK=>?_)
     ·skip
      refine Kd.R_lit_step k43 _ 43 ?hg (N:=49) ?hd (xs:=([]:List (S43))) (inner:=[]) (ok:=fun _=>True) (okp:=fun _=>True) ?hr ?hp (fun _ hk=>hk) trivial (Below.refl _ _) (Nat.le_refl _) (by simp) ?_;(case hd=>rfl);(case hg=>rfl);(case hr=>first | (go_simp;done) | (go_simp;rfl));(case hp=>exact(Reps.none _ _))
      intro v475 w29 ho30 hb hg_ hnew_
      clear hg_ hnew_
      (first | rw[← Ny474.out]at ho30 | (simp only[Int.reduceToNat]at ho30;rw[← Ny474.out]at ho30))
      have HO476:=am (Kd.R_lower (Kd.R_newB (Kd.R_newB (Kd.R_new' ho30 (Kd.R_lt (wR HO_5))) (g:=gb468) (o:=.cells #[.int .i64 1,.int .i64 (wrap64 (2+t464)),.int .i64 (wrap64 (2+t466))] 43 (0,0)) (pk_ BK468)) (g:=gb473) (o:=.cells #[.int .i64 1,.int .i64 (wrap64 (2+t469)),.int .i64 (wrap64 (2+t471))] 43 (0,0)) (pk_ BK473)) (jg (w:=w) (g:=g) (row:=none) (kx_ HK)))
      replace HO_5:=eR HO_5 (Kd.R_base ho30) hb
      replace BK468:=am (jx (g:=gb468) (o:=.cells #[.int .i64 1,.int .i64 (wrap64 (2+t464)),.int .i64 (wrap64 (2+t466))] 43 (0,0)) (pk_ BK468) hb)
      replace BK473:=am (jx (g:=gb473) (o:=.cells #[.int .i64 1,.int .i64 (wrap64 (2+t469)),.int .i64 (wrap64 (2+t471))] 43 (0,0)) (pk_ BK473) hb)
      replace HK:=am (KeepBut.trans (kx_ HK) (KeepBut.of_below hb g none) (.inl rfl))
      replace HB:=am (zp (jr HB HI0) hb)
      replace HI0:=am (IsS112.below (zt HI0) hb)
      clear hb ho30
      refine hK.out _ _ ⟨(qf BK468.out 0).trans rfl,(qf BK468.out 1).trans rfl,(qf BK468.out 2).trans rfl,(qf BK473.out 0).trans rfl,(qf BK473.out 1).trans rfl,(qf BK473.out 2).trans rfl⟩ fun hHeld=>nz ?_
      clear hK K
      refine two_ (i:=2) (j:=5) (Ni:=some 51) (Nj:=some 54) #[true,true,true,true,true,false,false,false] #[true,true,false,true,true,true,false,false] rfl rfl rfl rfl (qhy HT_.out (by kernel_rfl)) (by decide) (by decide) (fun K hK=>?_) (fun K hK=>?_)
      ·skip
       refine Kd.R_append_rows_step k43 w.heap.size (by rfl) (.tmp 49) (.tmp 50) 34 43 (.agg #[(.int .i64 0),(.int .i64 0),(.int .i64 0)]) 24 rfl Try.underlying34 qai rfl (by decide) (by omega) v475 y474 y447 _ _ _ (fun k_=>some k_≠(.slice Ao26 y447.length co26:Value).ownBlock∧k_≠gb468∧k_≠gb473) (fun _=>False) rfl rfl ?aO ?aR (fun _ _ h=>h) (fun _ h=>h.elim) ?aF (Below.refl _ _) ?aS ?aL ?_
       (case aR=>exact Kd.C_below (Kd.R_reads' HO_5.out).2.2 gs)
       (case aF=>exact(fun k_ hk=>⟨Kd.fresh' (Kd.R_lt (wR HO_5)) k_ hk,Kd.freshB (g:=gb468) (o:=.cells #[.int .i64 1,.int .i64 (wrap64 (2+t464)),.int .i64 (wrap64 (2+t466))] 43 (0,0)) (pk_ BK468) k_ hk,Kd.freshB (g:=gb473) (o:=.cells #[.int .i64 1,.int .i64 (wrap64 (2+t469)),.int .i64 (wrap64 (2+t471))] 43 (0,0)) (pk_ BK473) k_ hk⟩))
       (case aO=>exact(oR_ HO476 (fun _ hk=>⟨hk.1.1.2,⟨hk.1.2,hk.2⟩⟩)))
       (case aS=>exact(jg (w:=w) (g:=g) (row:=none) (kx_ HK)))
       (case aL=>have:=LMc11.out;omega)
       intro v478 w31 ho hb hg hat
       rw[← Ny477.out]at ho
       replace HO_5:=am (Kd.R_after (ok:=(fun k_=>k_≠gb468∧k_≠gb473)) (wR HO_5) hg hat)
       replace BK468:=am (Zg (g:=gb468) (o:=.cells #[.int .i64 1,.int .i64 (wrap64 (2+t464)),.int .i64 (wrap64 (2+t466))] 43 (0,0)) (pk_ BK468) hg (Kd.R_away HO476.out (fun _ hk=>hk.1.2)))
       replace BK473:=am (Zg (g:=gb473) (o:=.cells #[.int .i64 1,.int .i64 (wrap64 (2+t469)),.int .i64 (wrap64 (2+t471))] 43 (0,0)) (pk_ BK473) hg (Kd.R_away HO476.out (fun _ hk=>hk.2)))
       replace HB:=am (Zl (jr HB HI0) HL.out hb)
       replace HI0:=am (IsS112.grown (zt HI0) hg (IsS112.own_ne HI0.out HO476.out (by decide)))
       replace HK:=am (KeepBut.trans (kx_ HK) (KeepBut.of_grown hg g) (Kd.R_base2 HO476.out))
       have HO479:=am (ho)
       clear HO476;clear ho hb hg hat
       refine hK.out _ _ ⟨(qf BK468.out 0).trans rfl,(qf BK468.out 1).trans rfl,(qf BK468.out 2).trans rfl,(qf BK473.out 0).trans rfl,(qf BK473.out 1).trans rfl,(qf BK473.out 2).trans rfl⟩ fun hHeld=>nz ?_
       clear hK K
       refine on 5 (some 54) HT_ fun K hK=>?_
       refine Kd.R_lit_step k43 _ 43 ?hg (N:=54) ?hd (xs:=([(⟨(⟨1,wrap64 (2+t464),wrap64 (2+t466)⟩:S41)⟩:S43),(⟨(⟨1,wrap64 (2+t469),wrap64 (2+t471)⟩:S41)⟩:S43)]:List (S43))) (inner:=[.int .i64 1,.int .i64 (wrap64 (2+t464)),.int .i64 (wrap64 (2+t466)),.int .i64 1,.int .i64 (wrap64 (2+t469)),.int .i64 (wrap64 (2+t471))]) (ok:=fun _=>True) (okp:=fun _=>True) ?hr ?hp (fun _ hk=>hk) trivial (Below.refl _ _) (Nat.le_refl _) (by simp) ?_;(case hd=>rfl);(case hg=>rfl);(case hr=>first | (go_simp;done) | (go_simp;rfl));(case hp=>exact(Reps.c3 (show Kd.M k43 _ _ _ (⟨(⟨1,wrap64 (2+t464),wrap64 (2+t466)⟩:S41)⟩:S43) [.int .i64 1,.int .i64 (wrap64 (2+t464)),.int .i64 (wrap64 (2+t466))] from (Zd _ _ _ (⟨(⟨1,wrap64 (2+t464),wrap64 (2+t466)⟩:S41)⟩:S43) )) (Reps.c3 (show Kd.M k43 _ _ _ (⟨(⟨1,wrap64 (2+t469),wrap64 (2+t471)⟩:S41)⟩:S43) [.int .i64 1,.int .i64 (wrap64 (2+t469)),.int .i64 (wrap64 (2+t471))] from (Zd _ _ _ (⟨(⟨1,wrap64 (2+t469),wrap64 (2+t471)⟩:S41)⟩:S43) )) (Reps.none _ _))))
       intro v481 w32 ho33 hb hg_ hnew_
       clear hg_ hnew_
       (first | rw[← Ny480.out]at ho33 | (simp only[Int.reduceToNat]at ho33;rw[← Ny480.out]at ho33))
       have HO482:=am (Kd.R_lower (Kd.R_newB (Kd.R_newB (Kd.R_new' (Kd.R_new' ho33 (Kd.R_lt (wR HO_5))) (Kd.R_lt (wR HO479))) (g:=gb468) (o:=.cells #[.int .i64 1,.int .i64 (wrap64 (2+t464)),.int .i64 (wrap64 (2+t466))] 43 (0,0)) (pk_ BK468)) (g:=gb473) (o:=.cells #[.int .i64 1,.int .i64 (wrap64 (2+t469)),.int .i64 (wrap64 (2+t471))] 43 (0,0)) (pk_ BK473)) (jg (w:=w) (g:=g) (row:=none) (kx_ HK)))
       replace HO_5:=eR HO_5 (Kd.R_base ho33) hb
       replace HO479:=eR HO479 (Kd.R_base ho33) hb
       replace BK468:=am (jx (g:=gb468) (o:=.cells #[.int .i64 1,.int .i64 (wrap64 (2+t464)),.int .i64 (wrap64 (2+t466))] 43 (0,0)) (pk_ BK468) hb)
       replace BK473:=am (jx (g:=gb473) (o:=.cells #[.int .i64 1,.int .i64 (wrap64 (2+t469)),.int .i64 (wrap64 (2+t471))] 43 (0,0)) (pk_ BK473) hb)
       replace HK:=am (KeepBut.trans (kx_ HK) (KeepBut.of_below hb g none) (.inl rfl))
       replace HB:=am (zp (jr HB HI0) hb)
       replace HI0:=am (IsS112.below (zt HI0) hb)
       clear hb ho33
       refine hK.out _ _ ⟨(qf BK468.out 0).trans rfl,(qf BK468.out 1).trans rfl,(qf BK468.out 2).trans rfl,(qf BK473.out 0).trans rfl,(qf BK473.out 1).trans rfl,(qf BK473.out 2).trans rfl⟩ fun hHeld=>nz ?_
       clear hK K
       exact qip (by first | (simp only[qa9,Act.put,List.setIfInBounds_toArray,List.set_cons_zero,List.set_cons_succ];done) | (simp only[qa9,Act.put,List.setIfInBounds_toArray,List.set_cons_zero,List.set_cons_succ];rfl)) (hCont (v475,v478,v481) _ ⟨hHeld,(oR_ HO479 (fun _ hk=>⟨hk.2,⟨hk.1.1,⟨hk.1.2.1,hk.1.2.2⟩⟩⟩)),(oR_ HO482 (fun _ hk=>⟨hk.1.1.2,⟨hk.1.1.1.2,⟨hk.1.2,hk.2⟩⟩⟩)),(oR_ HO_5 (fun _ hk=>⟨hk.1.2,⟨hk.2,⟨hk.1.1.1,hk.1.1.2⟩⟩⟩)),(pk_ BK468),(pk_ BK473),(zt HI0),(kx_ HK),(jr HB HI0)⟩)
      ·skip
       refine Kd.R_lit_step k43 _ 43 ?hg (N:=54) ?hd (xs:=([(⟨(⟨1,wrap64 (2+t464),wrap64 (2+t466)⟩:S41)⟩:S43),(⟨(⟨1,wrap64 (2+t469),wrap64 (2+t471)⟩:S41)⟩:S43)]:List (S43))) (inner:=[.int .i64 1,.int .i64 (wrap64 (2+t464)),.int .i64 (wrap64 (2+t466)),.int .i64 1,.int .i64 (wrap64 (2+t469)),.int .i64 (wrap64 (2+t471))]) (ok:=fun _=>True) (okp:=fun _=>True) ?hr ?hp (fun _ hk=>hk) trivial (Below.refl _ _) (Nat.le_refl _) (by simp) ?_;(case hd=>rfl);(case hg=>rfl);(case hr=>first | (go_simp;done) | (go_simp;rfl));(case hp=>exact(Reps.c3 (show Kd.M k43 _ _ _ (⟨(⟨1,wrap64 (2+t464),wrap64 (2+t466)⟩:S41)⟩:S43) [.int .i64 1,.int .i64 (wrap64 (2+t464)),.int .i64 (wrap64 (2+t466))] from (Zd _ _ _ (⟨(⟨1,wrap64 (2+t464),wrap64 (2+t466)⟩:S41)⟩:S43) )) (Reps.c3 (show Kd.M k43 _ _ _ (⟨(⟨1,wrap64 (2+t469),wrap64 (2+t471)⟩:S41)⟩:S43) [.int .i64 1,.int .i64 (wrap64 (2+t469)),.int .i64 (wrap64 (2+t471))] from (Zd _ _ _ (⟨(⟨1,wrap64 (2+t469),wrap64 (2+t471)⟩:S41)⟩:S43) )) (Reps.none _ _))))
       intro v481 w31 ho32 hb hg_ hnew_
       clear hg_ hnew_
       (first | rw[← Ny480.out]at ho32 | (simp only[Int.reduceToNat]at ho32;rw[← Ny480.out]at ho32))
       have HO482:=am (Kd.R_lower (Kd.R_newB (Kd.R_newB (Kd.R_new' (Kd.R_new' ho32 (Kd.R_lt (wR HO_5))) (Kd.R_lt (wR HO476))) (g:=gb468) (o:=.cells #[.int .i64 1,.int .i64 (wrap64 (2+t464)),.int .i64 (wrap64 (2+t466))] 43 (0,0)) (pk_ BK468)) (g:=gb473) (o:=.cells #[.int .i64 1,.int .i64 (wrap64 (2+t469)),.int .i64 (wrap64 (2+t471))] 43 (0,0)) (pk_ BK473)) (jg (w:=w) (g:=g) (row:=none) (kx_ HK)))
       replace HO_5:=eR HO_5 (Kd.R_base ho32) hb
       replace HO476:=eR HO476 (Kd.R_base ho32) hb
       replace BK468:=am (jx (g:=gb468) (o:=.cells #[.int .i64 1,.int .i64 (wrap64 (2+t464)),.int .i64 (wrap64 (2+t466))] 43 (0,0)) (pk_ BK468) hb)
       replace BK473:=am (jx (g:=gb473) (o:=.cells #[.int .i64 1,.int .i64 (wrap64 (2+t469)),.int .i64 (wrap64 (2+t471))] 43 (0,0)) (pk_ BK473) hb)
       replace HK:=am (KeepBut.trans (kx_ HK) (KeepBut.of_below hb g none) (.inl rfl))
       replace HB:=am (zp (jr HB HI0) hb)
       replace HI0:=am (IsS112.below (zt HI0) hb)
       clear hb ho32
       refine hK.out _ _ ⟨(qf BK468.out 0).trans rfl,(qf BK468.out 1).trans rfl,(qf BK468.out 2).trans rfl,(qf BK473.out 0).trans rfl,(qf BK473.out 1).trans rfl,(qf BK473.out 2).trans rfl⟩ fun hHeld=>nz ?_
       clear hK K
       refine on 2 (some 51) HT_ fun K hK=>?_
       refine Kd.R_append_rows_step k43 w.heap.size (by rfl) (.tmp 49) (.tmp 50) 34 43 (.agg #[(.int .i64 0),(.int .i64 0),(.int .i64 0)]) 24 rfl Try.underlying34 qai rfl (by decide) (by omega) v475 y474 y447 _ _ _ (fun k_=>some k_≠(.slice Ao26 y447.length co26:Value).ownBlock∧some k_≠(v481:Value).ownBlock∧k_≠gb468∧k_≠gb473) (fun _=>False) rfl rfl ?aO ?aR (fun _ _ h=>h) (fun _ h=>h.elim) ?aF (Below.refl _ _) ?aS ?aL ?_
       (case aR=>exact Kd.C_below (Kd.R_reads' HO_5.out).2.2 gs)
       (case aF=>exact(fun k_ hk=>⟨Kd.fresh' (Kd.R_lt (wR HO_5)) k_ hk,Kd.fresh' (Kd.R_lt (wR HO482)) k_ hk,Kd.freshB (g:=gb468) (o:=.cells #[.int .i64 1,.int .i64 (wrap64 (2+t464)),.int .i64 (wrap64 (2+t466))] 43 (0,0)) (pk_ BK468) k_ hk,Kd.freshB (g:=gb473) (o:=.cells #[.int .i64 1,.int .i64 (wrap64 (2+t469)),.int .i64 (wrap64 (2+t471))] 43 (0,0)) (pk_ BK473) k_ hk⟩))
       (case aO=>exact(oR_ HO476 (fun _ hk=>⟨hk.1.1.1.2,⟨hk.2,⟨hk.1.1.2,hk.1.2⟩⟩⟩)))
       (case aS=>exact(jg (w:=w) (g:=g) (row:=none) (kx_ HK)))
       (case aL=>have:=LMc11.out;omega)
       intro v478 w33 ho hb hg hat
       rw[← Ny477.out]at ho
       replace HO_5:=am (Kd.R_after (ok:=(fun k_=>some k_≠(v481:Value).ownBlock∧k_≠gb468∧k_≠gb473)) (oR_ HO_5 (fun _ hk=>⟨⟨hk.2,⟨hk.1.1.1,hk.1.1.2⟩⟩,hk.1.2⟩)) hg hat)
       replace BK468:=am (Zg (g:=gb468) (o:=.cells #[.int .i64 1,.int .i64 (wrap64 (2+t464)),.int .i64 (wrap64 (2+t466))] 43 (0,0)) (pk_ BK468) hg (Kd.R_away HO476.out (fun _ hk=>hk.1.1.2)))
       replace BK473:=am (Zg (g:=gb473) (o:=.cells #[.int .i64 1,.int .i64 (wrap64 (2+t469)),.int .i64 (wrap64 (2+t471))] 43 (0,0)) (pk_ BK473) hg (Kd.R_away HO476.out (fun _ hk=>hk.1.2)))
       replace HO482:=am (Kd.R_after (ok:=(fun k_=>some k_≠(.slice Ao26 y447.length co26:Value).ownBlock∧k_≠gb468∧k_≠gb473)) (oR_ HO482 (fun _ hk=>⟨⟨hk.1.1.1.2,⟨hk.1.2,hk.2⟩⟩,hk.1.1.2⟩)) hg hat)
       replace HB:=am (Zl (jr HB HI0) HL.out hb)
       replace HI0:=am (IsS112.grown (zt HI0) hg (IsS112.own_ne HI0.out HO476.out (by decide)))
       replace HK:=am (KeepBut.trans (kx_ HK) (KeepBut.of_grown hg g) (Kd.R_base2 HO476.out))
       have HO479:=am (ho)
       clear HO476;clear ho hb hg hat
       refine hK.out _ _ ⟨(qf BK468.out 0).trans rfl,(qf BK468.out 1).trans rfl,(qf BK468.out 2).trans rfl,(qf BK473.out 0).trans rfl,(qf BK473.out 1).trans rfl,(qf BK473.out 2).trans rfl⟩ fun hHeld=>nz ?_
       clear hK K
       exact qip (by first | (simp only[qa9,Act.put,List.setIfInBounds_toArray,List.set_cons_zero,List.set_cons_succ];done) | (simp only[qa9,Act.put,List.setIfInBounds_toArray,List.set_cons_zero,List.set_cons_succ];rfl)) (hCont (v475,v478,v481) _ ⟨hHeld,(oR_ HO479 (fun _ hk=>⟨hk.2.1,⟨hk.1,⟨hk.2.2.1,hk.2.2.2⟩⟩⟩)),(oR_ HO482 (fun _ hk=>⟨hk.2,⟨hk.1.1,⟨hk.1.2.1,hk.1.2.2⟩⟩⟩)),(oR_ HO_5 (fun _ hk=>⟨hk.2,⟨hk.1.1,⟨hk.1.2.1,hk.1.2.2⟩⟩⟩)),(pk_ BK468),(pk_ BK473),(zt HI0),(kx_ HK),(jr HB HI0)⟩)
     ·skip
      refine Kd.R_lit_step k43 _ 43 ?hg (N:=54) ?hd (xs:=([(⟨(⟨1,wrap64 (2+t464),wrap64 (2+t466)⟩:S41)⟩:S43),(⟨(⟨1,wrap64 (2+t469),wrap64 (2+t471)⟩:S41)⟩:S43)]:List (S43))) (inner:=[.int .i64 1,.int .i64 (wrap64 (2+t464)),.int .i64 (wrap64 (2+t466)),.int .i64 1,.int .i64 (wrap64 (2+t469)),.int .i64 (wrap64 (2+t471))]) (ok:=fun _=>True) (okp:=fun _=>True) ?hr ?hp (fun _ hk=>hk) trivial (Below.refl _ _) (Nat.le_refl _) (by simp) ?_;(case hd=>rfl);(case hg=>rfl);(case hr=>first | (go_simp;done) | (go_simp;rfl));(case hp=>exact(Reps.c3 (show Kd.M k43 _ _ _ (⟨(⟨1,wrap64 (2+t464),wrap64 (2+t466)⟩:S41)⟩:S43) [.int .i64 1,.int .i64 (wrap64 (2+t464)),.int .i64 (wrap64 (2+t466))] from (Zd _ _ _ (⟨(⟨1,wrap64 (2+t464),wrap64 (2+t466)⟩:S41)⟩:S43) )) (Reps.c3 (show Kd.M k43 _ _ _ (⟨(⟨1,wrap64 (2+t469),wrap64 (2+t471)⟩:S41)⟩:S43) [.int .i64 1,.int .i64 (wrap64 (2+t469)),.int .i64 (wrap64 (2+t471))] from (Zd _ _ _ (⟨(⟨1,wrap64 (2+t469),wrap64 (2+t471)⟩:S41)⟩:S43) )) (Reps.none _ _))))
      intro v481 w29 ho30 hb hg_ hnew_
      clear hg_ hnew_
      (first | rw[← Ny480.out]at ho30 | (simp only[Int.reduceToNat]at ho30;rw[← Ny480.out]at ho30))
      have HO482:=am (Kd.R_lower (Kd.R_newB (Kd.R_newB (Kd.R_new' ho30 (Kd.R_lt (wR HO_5))) (g:=gb468) (o:=.cells #[.int .i64 1,.int .i64 (wrap64 (2+t464)),.int .i64 (wrap64 (2+t466))] 43 (0,0)) (pk_ BK468)) (g:=gb473) (o:=.cells #[.int .i64 1,.int .i64 (wrap64 (2+t469)),.int .i64 (wrap64 (2+t471))] 43 (0,0)) (pk_ BK473)) (jg (w:=w) (g:=g) (row:=none) (kx_ HK)))
      replace HO_5:=eR HO_5 (Kd.R_base ho30) hb
      replace BK468:=am (jx (g:=gb468) (o:=.cells #[.int .i64 1,.int .i64 (wrap64 (2+t464)),.int .i64 (wrap64 (2+t466))] 43 (0,0)) (pk_ BK468) hb)
      replace BK473:=am (jx (g:=gb473) (o:=.cells #[.int .i64 1,.int .i64 (wrap64 (2+t469)),.int .i64 (wrap64 (2+t471))] 43 (0,0)) (pk_ BK473) hb)
      replace HK:=am (KeepBut.trans (kx_ HK) (KeepBut.of_below hb g none) (.inl rfl))
      replace HB:=am (zp (jr HB HI0) hb)
      replace HI0:=am (IsS112.below (zt HI0) hb)
      clear hb ho30
      refine hK.out _ _ ⟨(qf BK468.out 0).trans rfl,(qf BK468.out 1).trans rfl,(qf BK468.out 2).trans rfl,(qf BK473.out 0).trans rfl,(qf BK473.out 1).trans rfl,(qf BK473.out 2).trans rfl⟩ fun hHeld=>nz ?_
      clear hK K
      refine on 0 (some 49) HT_ fun K hK=>?_
      refine Kd.R_lit_step k43 _ 43 ?hg (N:=49) ?hd (xs:=([]:List (S43))) (inner:=[]) (ok:=fun _=>True) (okp:=fun _=>True) ?hr ?hp (fun _ hk=>hk) trivial (Below.refl _ _) (Nat.le_refl _) (by simp) ?_;(case hd=>rfl);(case hg=>rfl);(case hr=>first | (go_simp;done) | (go_simp;rfl));(case hp=>exact(Reps.none _ _))
      intro v475 w31 ho32 hb hg_ hnew_
      clear hg_ hnew_
      (first | rw[← Ny474.out]at ho32 | (simp only[Int.reduceToNat]at ho32;rw[← Ny474.out]at ho32))
      have HO476:=am (Kd.R_lower (Kd.R_newB (Kd.R_newB (Kd.R_new' (Kd.R_new' ho32 (Kd.R_lt (wR HO_5))) (Kd.R_lt (wR HO482))) (g:=gb468) (o:=.cells #[.int .i64 1,.int .i64 (wrap64 (2+t464)),.int .i64 (wrap64 (2+t466))] 43 (0,0)) (pk_ BK468)) (g:=gb473) (o:=.cells #[.int .i64 1,.int .i64 (wrap64 (2+t469)),.int .i64 (wrap64 (2+t471))] 43 (0,0)) (pk_ BK473)) (jg (w:=w) (g:=g) (row:=none) (kx_ HK)))
      replace HO_5:=eR HO_5 (Kd.R_base ho32) hb
      replace HO482:=eR HO482 (Kd.R_base ho32) hb
      replace BK468:=am (jx (g:=gb468) (o:=.cells #[.int .i64 1,.int .i64 (wrap64 (2+t464)),.int .i64 (wrap64 (2+t466))] 43 (0,0)) (pk_ BK468) hb)
      replace BK473:=am (jx (g:=gb473) (o:=.cells #[.int .i64 1,.int .i64 (wrap64 (2+t469)),.int .i64 (wrap64 (2+t471))] 43 (0,0)) (pk_ BK473) hb)
      replace HK:=am (KeepBut.trans (kx_ HK) (KeepBut.of_below hb g none) (.inl rfl))
      replace HB:=am (zp (jr HB HI0) hb)
      replace HI0:=am (IsS112.below (zt HI0) hb)
      clear hb ho32
      refine hK.out _ _ ⟨(qf BK468.out 0).trans rfl,(qf BK468.out 1).trans rfl,(qf BK468.out 2).trans rfl,(qf BK473.out 0).trans rfl,(qf BK473.out 1).trans rfl,(qf BK473.out 2).trans rfl⟩ fun hHeld=>nz ?_
      clear hK K
      refine on 2 (some 51) HT_ fun K hK=>?_
      refine Kd.R_append_rows_step k43 w.heap.size (by rfl) (.tmp 49) (.tmp 50) 34 43 (.agg #[(.int .i64 0),(.int .i64 0),(.int .i64 0)]) 24 rfl Try.underlying34 qai rfl (by decide) (by omega) v475 y474 y447 _ _ _ (fun k_=>some k_≠(.slice Ao26 y447.length co26:Value).ownBlock∧some k_≠(v481:Value).ownBlock∧k_≠gb468∧k_≠gb473) (fun _=>False) rfl rfl ?aO ?aR (fun _ _ h=>h) (fun _ h=>h.elim) ?aF (Below.refl _ _) ?aS ?aL ?_
      (case aR=>exact Kd.C_below (Kd.R_reads' HO_5.out).2.2 gs)
      (case aF=>exact(fun k_ hk=>⟨Kd.fresh' (Kd.R_lt (wR HO_5)) k_ hk,Kd.fresh' (Kd.R_lt (wR HO482)) k_ hk,Kd.freshB (g:=gb468) (o:=.cells #[.int .i64 1,.int .i64 (wrap64 (2+t464)),.int .i64 (wrap64 (2+t466))] 43 (0,0)) (pk_ BK468) k_ hk,Kd.freshB (g:=gb473) (o:=.cells #[.int .i64 1,.int .i64 (wrap64 (2+t469)),.int .i64 (wrap64 (2+t471))] 43 (0,0)) (pk_ BK473) k_ hk⟩))
      (case aO=>exact(oR_ HO476 (fun _ hk=>⟨hk.1.1.1.2,⟨hk.1.1.2,⟨hk.1.2,hk.2⟩⟩⟩)))
      (case aS=>exact(jg (w:=w) (g:=g) (row:=none) (kx_ HK)))
      (case aL=>have:=LMc11.out;omega)
      intro v478 w33 ho hb hg hat
      rw[← Ny477.out]at ho
      replace HO_5:=am (Kd.R_after (ok:=(fun k_=>some k_≠(v481:Value).ownBlock∧k_≠gb468∧k_≠gb473)) (oR_ HO_5 (fun _ hk=>⟨⟨hk.1.2,⟨hk.1.1.1,hk.1.1.2⟩⟩,hk.2⟩)) hg hat)
      replace BK468:=am (Zg (g:=gb468) (o:=.cells #[.int .i64 1,.int .i64 (wrap64 (2+t464)),.int .i64 (wrap64 (2+t466))] 43 (0,0)) (pk_ BK468) hg (Kd.R_away HO476.out (fun _ hk=>hk.1.2)))
      replace BK473:=am (Zg (g:=gb473) (o:=.cells #[.int .i64 1,.int .i64 (wrap64 (2+t469)),.int .i64 (wrap64 (2+t471))] 43 (0,0)) (pk_ BK473) hg (Kd.R_away HO476.out (fun _ hk=>hk.2)))
      replace HO482:=am (Kd.R_after (ok:=(fun k_=>some k_≠(.slice Ao26 y447.length co26:Value).ownBlock∧k_≠gb468∧k_≠gb473)) (oR_ HO482 (fun _ hk=>⟨⟨hk.1.1.1.2,⟨hk.1.1.2,hk.1.2⟩⟩,hk.2⟩)) hg hat)
      replace HB:=am (Zl (jr HB HI0) HL.out hb)
      replace HI0:=am (IsS112.grown (zt HI0) hg (IsS112.own_ne HI0.out HO476.out (by decide)))
      replace HK:=am (KeepBut.trans (kx_ HK) (KeepBut.of_grown hg g) (Kd.R_base2 HO476.out))
      have HO479:=am (ho)
      clear HO476;clear ho hb hg hat
      refine hK.out _ _ ⟨(qf BK468.out 0).trans rfl,(qf BK468.out 1).trans rfl,(qf BK468.out 2).trans rfl,(qf BK473.out 0).trans rfl,(qf BK473.out 1).trans rfl,(qf BK473.out 2).trans rfl⟩ fun hHeld=>nz ?_
      clear hK K
      exact qip (by first | (simp only[qa9,Act.put,List.setIfInBounds_toArray,List.set_cons_zero,List.set_cons_succ];done) | (simp only[qa9,Act.put,List.setIfInBounds_toArray,List.set_cons_zero,List.set_cons_succ];rfl)) (hCont (v475,v478,v481) _ ⟨hHeld,(oR_ HO479 (fun _ hk=>⟨hk.2.1,⟨hk.1,⟨hk.2.2.1,hk.2.2.2⟩⟩⟩)),(oR_ HO482 (fun _ hk=>⟨hk.2,⟨hk.1.1,⟨hk.1.2.1,hk.1.2.2⟩⟩⟩)),(oR_ HO_5 (fun _ hk=>⟨hk.2,⟨hk.1.1,⟨hk.1.2.1,hk.1.2.2⟩⟩⟩)),(pk_ BK468),(pk_ BK473),(zt HI0),(kx_ HK),(jr HB HI0)⟩)
    rintro⟨v475,v478,v481⟩ w34 ⟨hS_,h0_,h1_,h2_,h3_,h4_,h5_,h6_,h7_⟩
    have n0_:qa (Kd.R k43 43 w34 w.heap.size (fun k_=>some k_≠(v481:Value).ownBlock∧some k_≠(.slice Ao26 y447.length co26:Value).ownBlock∧k_≠gb468∧k_≠gb473) v478 y477):=⟨h0_⟩
    have n1_:qa (Kd.R k43 43 w34 w.heap.size (fun k_=>some k_≠(v478:Value).ownBlock∧some k_≠(.slice Ao26 y447.length co26:Value).ownBlock∧k_≠gb468∧k_≠gb473) v481 y480):=⟨h1_⟩
    have n2_:qa (Kd.R k43 43 w34 w.heap.size (fun k_=>some k_≠(v478:Value).ownBlock∧some k_≠(v481:Value).ownBlock∧k_≠gb468∧k_≠gb473) (.slice Ao26 y447.length co26) y447):=⟨h2_⟩
    have n3_:qa (w34.heap[gb468]? =some (.cells #[.int .i64 1,.int .i64 (wrap64 (2+t464)),.int .i64 (wrap64 (2+t466))] 43 (0,0))):=⟨h3_⟩
    have n4_:qa (w34.heap[gb473]? =some (.cells #[.int .i64 1,.int .i64 (wrap64 (2+t469)),.int .i64 (wrap64 (2+t471))] 43 (0,0))):=⟨h4_⟩
    have n5_:qa (IsS112 w0 w34 g s0_0 t472):=⟨h5_⟩
    have n6_:qa (KeepBut w w34 g none):=⟨h6_⟩
    have n7_:qa (Below w0.heap.size w0 w34):=⟨h7_⟩
    clear HO_5;clear BK468;clear BK473;clear HI0;clear HK;clear HB;clear h0_ h1_ h2_ h3_ h4_ h5_ h6_ h7_
    have HO479:=n0_
    have HO482:=n1_
    have HO_5:=n2_
    have BK468:=n3_
    have BK473:=n4_
    have HI0:=n5_
    have HK:=n6_
    have HB:=n7_
    clear n0_ n1_ n2_ n3_ n4_ n5_ n6_ n7_
    have hHeld:w34.cell? ⟨gb468,0,none⟩=some (.int .i64 1)∧w34.cell? ⟨gb468,1,none⟩=some (.int .i64 (wrap64 (2+t464)))∧w34.cell? ⟨gb468,2,none⟩=some (.int .i64 (wrap64 (2+t466)))∧w34.cell? ⟨gb473,0,none⟩=some (.int .i64 1)∧w34.cell? ⟨gb473,1,none⟩=some (.int .i64 (wrap64 (2+t469)))∧w34.cell? ⟨gb473,2,none⟩=some (.int .i64 (wrap64 (2+t471))):=hS_
    obtain⟨Ao36,co36,eo36⟩:=Kd.R_slice HO482.out
    (first | subst eo36 | (injection eo36 with f1_ f2_ f3_;have f4_:=f1_.symm;have f5_:=f3_.symm;clear f1_ f2_ f3_;subst f4_;subst f5_))
    refine qip (a':=?_) ?_ ?_
    rotate_left
    ·simp only[qa9,Act.put,List.setIfInBounds_toArray,List.set_cons_zero,List.set_cons_succ]
     rfl
    refine on 6 (some 55) HT_ fun K hK=>?_
    refine Kd.R_append_rows_step k43 w.heap.size (by rfl) (.tmp 51) (.tmp 54) 34 43 (.agg #[(.int .i64 0),(.int .i64 0),(.int .i64 0)]) 24 rfl Try.underlying34 qai rfl (by decide) (by omega) v478 y477 y480 _ _ _ (fun k_=>some k_≠(.slice Ao26 y447.length co26:Value).ownBlock∧some k_≠(.slice Ao36 y480.length co36:Value).ownBlock∧k_≠gb468∧k_≠gb473) (fun _=>False) rfl rfl ?aO ?aR (fun _ _ h=>h) (fun _ h=>h.elim) ?aF (Below.refl _ _) ?aS ?aL ?_
    (case aR=>exact Kd.C_below (Kd.R_reads' HO482.out).2.2 gs)
    (case aF=>exact(fun k_ hk=>⟨Kd.fresh' (Kd.R_lt (wR HO_5)) k_ hk,Kd.fresh' (Kd.R_lt (wR HO482)) k_ hk,Kd.freshB (g:=gb468) (o:=.cells #[.int .i64 1,.int .i64 (wrap64 (2+t464)),.int .i64 (wrap64 (2+t466))] 43 (0,0)) (pk_ BK468) k_ hk,Kd.freshB (g:=gb473) (o:=.cells #[.int .i64 1,.int .i64 (wrap64 (2+t469)),.int .i64 (wrap64 (2+t471))] 43 (0,0)) (pk_ BK473) k_ hk⟩))
    (case aO=>exact(oR_ HO479 (fun _ hk=>⟨hk.2.1,⟨hk.1,⟨hk.2.2.1,hk.2.2.2⟩⟩⟩)))
    (case aS=>exact(jg (w:=w) (g:=g) (row:=none) (kx_ HK)))
    (case aL=>have:=LMc12.out;omega)
    intro v484 w35 ho hb hg hat
    rw[← Ny483.out]at ho
    replace HO_5:=am (Kd.R_after (ok:=(fun k_=>some k_≠(.slice Ao36 y480.length co36:Value).ownBlock∧k_≠gb468∧k_≠gb473)) (oR_ HO_5 (fun _ hk=>⟨⟨hk.2.1,⟨hk.2.2.1,hk.2.2.2⟩⟩,hk.1⟩)) hg hat)
    replace BK468:=am (Zg (g:=gb468) (o:=.cells #[.int .i64 1,.int .i64 (wrap64 (2+t464)),.int .i64 (wrap64 (2+t466))] 43 (0,0)) (pk_ BK468) hg (Kd.R_away HO479.out (fun _ hk=>hk.2.2.1)))
    replace BK473:=am (Zg (g:=gb473) (o:=.cells #[.int .i64 1,.int .i64 (wrap64 (2+t469)),.int .i64 (wrap64 (2+t471))] 43 (0,0)) (pk_ BK473) hg (Kd.R_away HO479.out (fun _ hk=>hk.2.2.2)))
    replace HO482:=am (Kd.R_after (ok:=(fun k_=>some k_≠(.slice Ao26 y447.length co26:Value).ownBlock∧k_≠gb468∧k_≠gb473)) (oR_ HO482 (fun _ hk=>⟨⟨hk.2.1,⟨hk.2.2.1,hk.2.2.2⟩⟩,hk.1⟩)) hg hat)
    replace HB:=am (Zl (jr HB HI0) HL.out hb)
    replace HI0:=am (IsS112.grown (zt HI0) hg (IsS112.own_ne HI0.out HO479.out (by decide)))
    replace HK:=am (KeepBut.trans (kx_ HK) (KeepBut.of_grown hg g) (Kd.R_base2 HO479.out))
    have HO485:=am (ho)
    clear HO479;clear ho hb hg hat
    refine hK.out _ _ ⟨(qf BK468.out 0).trans rfl,(qf BK468.out 1).trans rfl,(qf BK468.out 2).trans rfl,(qf BK473.out 0).trans rfl,(qf BK473.out 1).trans rfl,(qf BK473.out 2).trans rfl⟩ fun hHeld=>nz ?_
    clear hK K;refine pz 7 9 HT_ ?_
    refine Zo (Qz HT_.out (by kernel_rfl)) ?_
    obtain⟨Ao37,co37,eo37⟩:=Kd.R_slice HO485.out
    subst eo37
    by_cases c14:t486=true
    ·have H:=HQ_.out;clear HQ_
     subst c14
     rw[if_pos rfl]at H
     simp only[Option.some.injEq,Prod.mk.injEq]at H
     obtain⟨rfl,rfl,rfl⟩:=H
     try go_wp2_with (first | ((with_reducible refine qe (f:=62) rfl ?_);refine gl 58 Try.func62 #[.int .i64 t445,.slice Ao37 y483.length co37] ?_;(with_reducible refine(zm.calls k1 t445 _ _ y483 true _ ?side1 ?side2 A13.out).mono ?_);(case side1=>exact Kd.C_below (Kd.R_reads' HO485.out).2.2 gs);(case side2=>exact(Kd.R_reads' HO485.out).2.1);rintro e w38 ⟨rfl,hb⟩;refine⟨_,rfl,?_⟩;replace HO_5:=am (Kd.R_below (wR HO_5) hb);replace HO482:=am (Kd.R_below (wR HO482) hb);replace HO485:=am (Kd.R_below (wR HO485) hb);replace BK468:=am (jx (g:=gb468) (o:=.cells #[.int .i64 1,.int .i64 (wrap64 (2+t464)),.int .i64 (wrap64 (2+t466))] 43 (0,0)) (pk_ BK468) hb);replace BK473:=am (jx (g:=gb473) (o:=.cells #[.int .i64 1,.int .i64 (wrap64 (2+t469)),.int .i64 (wrap64 (2+t471))] 43 (0,0)) (pk_ BK473) hb);replace HK:=am (KeepBut.trans (kx_ HK) (KeepBut.of_below hb g none) (.inl rfl));replace HB:=am (zp (jr HB HI0) hb);replace HI0:=am (IsS112.below (zt HI0) hb);(try clear hb);(try clear hb2);(try clear hk);(try clear hi)))
     go_ret2
     exact⟨_,fq,Kd.R_below (Kd.R_mono HO485.out (fun _ hk=>trivial)) gs,zt HI0,jr HB HI0,kx_ HK⟩
    ·have H:=HQ_.out;clear HQ_
     replace c14:=Bool.eq_false_iff.mpr c14
     subst c14
     rw[if_neg (show ¬ (false=true) by decide)]at H
     have H':=am H;clear H
     try go_wp2_with (first | ((with_reducible refine qe (f:=62) rfl ?_);refine gl 58 Try.func62 #[.int .i64 t445,.slice Ao37 y483.length co37] ?_;(with_reducible refine(zm.calls k1 t445 _ _ y483 false _ ?side1 ?side2 A13.out).mono ?_);(case side1=>exact Kd.C_below (Kd.R_reads' HO485.out).2.2 gs);(case side2=>exact(Kd.R_reads' HO485.out).2.1);rintro e w62 ⟨rfl,hb⟩;refine⟨_,rfl,?_⟩;replace HO_5:=am (Kd.R_below (wR HO_5) hb);replace HO482:=am (Kd.R_below (wR HO482) hb);replace HO485:=am (Kd.R_below (wR HO485) hb);replace BK468:=am (jx (g:=gb468) (o:=.cells #[.int .i64 1,.int .i64 (wrap64 (2+t464)),.int .i64 (wrap64 (2+t466))] 43 (0,0)) (pk_ BK468) hb);replace BK473:=am (jx (g:=gb473) (o:=.cells #[.int .i64 1,.int .i64 (wrap64 (2+t469)),.int .i64 (wrap64 (2+t471))] 43 (0,0)) (pk_ BK473) hb);replace HK:=am (KeepBut.trans (kx_ HK) (KeepBut.of_below hb g none) (.inl rfl));replace HB:=am (zp (jr HB HI0) hb);replace HI0:=am (IsS112.below (zt HI0) hb);(try clear hb);(try clear hb2);(try clear hk);(try clear hi)))
     go_roundg k1
     case measure=>have:=HK1.out;omega
     case rel=>exact⟨(wrap64 (x6_1+1)),(t472),fr,H',⟨by have:=HK1.out;omega⟩,⟨Kd.R_below (Kd.R_mono HO_5.out (fun _ hk=>trivial)) gs⟩,⟨zt HI0⟩,⟨kx_ HK⟩,⟨jr HB HI0⟩⟩
   ·rw[if_neg c6]at H
    have c6b0:=decide_eq_false c6;clear c6;replace H:=bs H
    obtain⟨⟨t450,t451,t452,t453⟩,A63,H⟩:=H
    dsimp only at H
    replace H:=bs H
    obtain⟨⟨t454,t455,t456,t457⟩,A64,H⟩:=H
    dsimp only at H
    replace H:=bsy H;obtain⟨y458,Ny458,H⟩:=H
    by_cases c65:y447.length+y458.length < 5864062014805
    ·rw[if_pos c65]at H
     have LMc65:=am c65;clear c65
     generalize hy461:(y447++y458:List (S43))=y461 at H
     have Ny461:=am hy461.symm;clear hy461
     simp only[Option.some.injEq,Prod.mk.injEq]at H
     obtain⟨rfl,rfl,rfl⟩:=H
     go_wp2_with (first | ((with_reducible refine qe (f:=72) rfl ?_);refine gl 65 Try.func72 #[.pointer (some ⟨g,0,none⟩),.int .i64 t445] ?_;(with_reducible refine(Qk.calls k1 g s0_0 x1001_1 t445 t450 t451 t452 t453 w0 _ ?_ ?_ A63.out).mono ?_);(· repeat (first | (with_reducible first | exact HI0.out | apply IsS112.alloc | apply IsS112.drewN | apply IsS112.drew | apply IsS112.set_1) | exact HI0.out));(· repeat (first | (with_reducible first | exact HB.out | apply qy | apply qh | apply qv | refine zd ?_ (IsS112.ge HI0.out)) | exact HB.out));rintro e w66 ⟨rfl,hi,hb,hk⟩;refine⟨_,rfl,?_⟩;replace HO_5:=am (Kd.R_mono (Kd.R_keep (IsS112.apart (show IsS112 w0 _ g s0_0 x1001_1 from zt HI0) (wR HO_5) (by decide)) hk (fun _ h=>h.2)) (fun _ h=>h.1));replace HK:=am (KeepBut.trans (kw HK) hk (.inl rfl));replace HB:=am (hb);replace HI0:=am (hi);(try clear hb);(try clear hk);(try clear hi)) | ((with_reducible refine qe (f:=72) rfl ?_);refine gl 68 Try.func72 #[.pointer (some ⟨g,0,none⟩),.int .i64 t445] ?_;(with_reducible refine(Qk.calls k1 g s0_0 t453 t445 t454 t455 t456 t457 w0 _ ?_ ?_ A64.out).mono ?_);(· repeat (first | (with_reducible first | exact HI0.out | apply IsS112.alloc | apply IsS112.drewN | apply IsS112.drew | apply IsS112.set_1) | exact HI0.out));(· repeat (first | (with_reducible first | exact HB.out | apply qy | apply qh | apply qv | refine zd ?_ (IsS112.ge HI0.out)) | exact HB.out));rintro e w67 ⟨rfl,hi,hb,hk⟩;refine⟨_,rfl,?_⟩;replace HO_5:=am (Kd.R_mono (Kd.R_keep (IsS112.apart (show IsS112 w0 _ g s0_0 t453 from zt HI0) (wR HO_5) (by decide)) hk (fun _ h=>h.2)) (fun _ h=>h.1));replace HK:=am (KeepBut.trans (kw HK) hk (.inl rfl));replace HB:=am (hb);replace HI0:=am (hi);(try clear hb);(try clear hk);(try clear hi)) | ((with_reducible refine q7 (N:=69) rfl ?_);refine Kd.R_lit k43 _ 43 ?hg (N:=69) ?hd (xs:=([(⟨(⟨t450,t451,t452⟩:S41)⟩:S43),(⟨(⟨t454,t455,t456⟩:S41)⟩:S43)]:List (S43))) (inner:=[.int .i64 t450,.int .i64 t451,.int .i64 t452,.int .i64 t454,.int .i64 t455,.int .i64 t456]) (ok:=fun _=>True) (okp:=fun _=>True) ?hr ?hp (fun _ hk=>hk) trivial (Below.refl _ _) (Nat.le_refl _) (by simp) ?_;(case hd=>rfl);(case hg=>rfl);(case hr=>first | (go_simp;done) | (go_simp;rfl));(case hp=>exact(Reps.c3 (show Kd.M k43 _ _ _ (⟨(⟨t450,t451,t452⟩:S41)⟩:S43) [.int .i64 t450,.int .i64 t451,.int .i64 t452] from (Zd _ _ _ (⟨(⟨t450,t451,t452⟩:S41)⟩:S43) )) (Reps.c3 (show Kd.M k43 _ _ _ (⟨(⟨t454,t455,t456⟩:S41)⟩:S43) [.int .i64 t454,.int .i64 t455,.int .i64 t456] from (Zd _ _ _ (⟨(⟨t454,t455,t456⟩:S41)⟩:S43) )) (Reps.none _ _))));intro v459 w68 ho69 hb hg_ hnew_;clear hg_ hnew_;(first | rw[← Ny458.out]at ho69 | (simp only[Int.reduceToNat]at ho69;rw[← Ny458.out]at ho69));have HO460:=am (Kd.R_lower (Kd.R_new' ho69 (Kd.R_lt (wR HO_5))) (jg (w:=w) (g:=g) (row:=none) (kw HK)));replace HO_5:=eR HO_5 (Kd.R_base ho69) hb;replace HK:=am (KeepBut.trans (kw HK) (KeepBut.of_below hb g none) (.inl rfl));replace HB:=am (zp (jr HB HI0) hb);replace HI0:=am (IsS112.below (zt HI0) hb);clear hb ho69;obtain⟨Ao71,co71,eo71⟩:=Kd.R_slice HO460.out;subst eo71) | ((with_reducible refine ji (b:=.append) (xs:=#[.tmp 62,.tmp 69]) rfl ?_);at_builtin;refine Kd.R_append_rows k43 w.heap.size rfl (.tmp 62) (.tmp 69) 34 43 (.agg #[(.int .i64 0),(.int .i64 0),(.int .i64 0)]) 24 rfl Try.underlying34 qai rfl (by decide) (by omega) v448 y447 y458 _ _ _ (fun k_=>some k_≠(.slice Ao71 y458.length co71:Value).ownBlock) (fun _=>False) rfl rfl ?aO ?aR (fun _ _ h=>h) (fun _ h=>h.elim) ?aF (Below.refl _ _) ?aS ?aL ?_;(case aR=>exact Kd.C_below (Kd.R_reads' HO460.out).2.2 gs);(case aF=>exact(fun k_ hk=>Kd.fresh' (Kd.R_lt (wR HO460)) k_ hk));(case aO=>exact(oR_ HO_5 (fun _ hk=>hk.2)));(case aS=>exact(jg (w:=w) (g:=g) (row:=none) (kw HK)));(case aL=>have:=LMc65.out;omega);intro v462 w70 ho hb hg hat;rw[← Ny461.out]at ho;replace HO460:=am (Kd.R_after (ok:=(fun _=>True)) (wR HO460) hg hat);replace HB:=am (Zl (jr HB HI0) HL.out hb);replace HI0:=am (IsS112.grown (zt HI0) hg (IsS112.own_ne HI0.out HO_5.out (by decide)));replace HK:=am (KeepBut.trans (kw HK) (KeepBut.of_grown hg g) (Kd.R_base2 HO_5.out));have HO463:=am (ho);clear HO_5;clear ho hb hg hat))
     go_ret2
     exact⟨_,fq,Kd.R_below (Kd.R_mono HO463.out (fun _ hk=>trivial)) gs,zt HI0,jr HB HI0,kw HK⟩
    ·rw[if_neg c65]at H
     exact absurd H (by simp)
end Go.Proofs.Ytmgbpmihbljngaa.PA
