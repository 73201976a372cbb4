-- Written by xprint.py, a program of this claim's own (over the kit's print.py)
import Derived.Test.YtmgbpmihbljngaaPAx21
namespace Go.Proofs.Ytmgbpmihbljngaa.PA
set_option maxHeartbeats 8000000
set_option maxRecDepth 100000
open Go.RowKit Go.Proofs.YtmgbpmihbljngaaW.PrintWords Go.Proofs.YtmgbpmihbljngaaW.PrintLast Go.Proofs.YtmgbpmihbljngaaW.PrintMore
attribute [local go_sem] Qg Qj Qp Qo j4 j3 Qh Qf
set_option linter.unusedVariables false
set_option linter.unusedSimpArgs false
def Qv.f (k:Nat) (a0:Int) (l1:List Int) (a2:Int):Option (List Int):=if 0≤(Int.tmod (wrap64 (Int.tdiv a2 3)) 3) then (if (Int.tmod (wrap64 (Int.tdiv a2 3)) 3) < (l1.length:Int) then (if 0≤(Int.tmod a2 3) then (if (Int.tmod a2 3) < (l1.length:Int) then (if (wrap64 (Int.tdiv a2 9))=1 then ((Qa.f k a0 (([(([rd l1 (Int.tmod (wrap64 (Int.tdiv a2 3)) 3),0,1,0]:List Int)),(([0,rd l1 (Int.tmod a2 3),0,1]:List Int))]:List (List Int)))).bind fun bt582=>(some bt582.1)) else (if (wrap64 (Int.tdiv a2 9))=2 then ((Qa.f k a0 (([(([rd l1 (Int.tmod (wrap64 (Int.tdiv a2 3)) 3),0,0,1]:List Int)),(([0,rd l1 (Int.tmod a2 3),1,0]:List Int))]:List (List Int)))).bind fun bt595=>(some bt595.1)) else ((Qa.f k a0 (([(([rd l1 (Int.tmod (wrap64 (Int.tdiv a2 3)) 3),1,0,0]:List Int)),(([0,0,rd l1 (Int.tmod a2 3),1]:List Int))]:List (List Int)))).bind fun bt599=>(some bt599.1)))) else (none)) else (none)) else (none)) else (none)
theorem Qv.mono :∀ a0 a1 a2 k,LeO (Qv.f k a0 a1 a2) (Qv.f (k+1) a0 a1 a2):=by
 intro a0 a1 a2 k
 unfold Qv.f
 repeat' first | (with_reducible first | apply Qa.mono | exact LeO.refl _ | exact LeO.none _ | refine LeO.ite ?_ ?_ | refine LeO.bind ?_ (fun _=>?_)) | (first | apply Qa.mono | exact LeO.none _ | refine LeO.ite ?_ ?_ | refine LeO.bind ?_ (fun _=>?_))
theorem Qv.calls (k:Nat) (a0:Int) (A1:Option Addr) (c1:Nat) (l1:List Int) (a2:Int) (r:List Int) (w:World) (hr1:Kd.C (Kd.int .i64) w A1 l1.length l1) (hc1:l1.length≤c1) (h:Qv.f k a0 l1 a2=some r):
  Calls Try.prog 164 #[.int .i64 a0,.slice A1 l1.length c1,.int .i64 a2] w fun e w'=>∃ v0_:Value,e=.returned (v0_)∧Kd.R (Kd.int .i64) 3 w' w.heap.size (fun _=>True) v0_ r∧Below w.heap.size w w':=by
 have HR1:=am hr1
 have HC1:=am hc1
 clear hr1 hc1
 have HB:=am (Below.refl w.heap.size w)
 have H:(if 0≤(Int.tmod (wrap64 (Int.tdiv a2 3)) 3) then (if (Int.tmod (wrap64 (Int.tdiv a2 3)) 3) < (l1.length:Int) then (if 0≤(Int.tmod a2 3) then (if (Int.tmod a2 3) < (l1.length:Int) then (if (wrap64 (Int.tdiv a2 9))=1 then ((Qa.f k a0 (([(([rd l1 (Int.tmod (wrap64 (Int.tdiv a2 3)) 3),0,1,0]:List Int)),(([0,rd l1 (Int.tmod a2 3),0,1]:List Int))]:List (List Int)))).bind fun bt582=>(some bt582.1)) else (if (wrap64 (Int.tdiv a2 9))=2 then ((Qa.f k a0 (([(([rd l1 (Int.tmod (wrap64 (Int.tdiv a2 3)) 3),0,0,1]:List Int)),(([0,rd l1 (Int.tmod a2 3),1,0]:List Int))]:List (List Int)))).bind fun bt595=>(some bt595.1)) else ((Qa.f k a0 (([(([rd l1 (Int.tmod (wrap64 (Int.tdiv a2 3)) 3),1,0,0]:List Int)),(([0,0,rd l1 (Int.tmod a2 3),1]:List Int))]:List (List Int)))).bind fun bt599=>(some bt599.1)))) else (none)) else (none)) else (none)) else (none))=some r:=h
 clear h
 obtain⟨ji4,hji4⟩:∃ j_:Int,(Int.tmod (wrap64 (Int.tdiv a2 3)) 3)=j_:=⟨_,rfl⟩
 (first | rw[hji4]at H | simp only[hji4]at H)
 by_cases c5:0≤(ji4)
 ·rw[if_pos c5]at H
  have c5b0:=decide_eq_true c5;clear c5;replace H:=ifn H;obtain⟨c6,H⟩:=H;have c6b0:=decide_eq_true c6;clear c6
  obtain⟨ji7,hji7⟩:∃ j_:Int,(Int.tmod a2 3)=j_:=⟨_,rfl⟩
  (first | rw[hji7]at H | simp only[hji7]at H)
  replace H:=ifn H;obtain⟨c8,H⟩:=H;have c8b0:=decide_eq_true c8;clear c8;replace H:=ifn H;obtain⟨c9,H⟩:=H;have c9b0:=decide_eq_true c9;clear c9
  generalize hy564:(([rd l1 (ji4),1,0,0]:List Int))=y564 at H
  have Ny564:=am hy564.symm;clear hy564
  generalize hy567:(([0,0,rd l1 (ji7),1]:List Int))=y567 at H
  have Ny567:=am hy567.symm;clear hy567
  generalize hy570:(([y564,y567]:List (List Int)))=y570 at H
  have Ny570:=am hy570.symm;clear hy570
  by_cases c10:(wrap64 (Int.tdiv a2 9))=1
  ·rw[if_pos c10]at H
   have c10b0:=beq_iff_eq.mpr c10;have c10b1:=bne_eq_false_iff_eq.mpr c10;clear c10
   generalize hy573:(([rd l1 (ji4),0,1,0]:List Int))=y573 at H
   have Ny573:=am hy573.symm;clear hy573
   generalize hy576:(([0,rd l1 (ji7),0,1]:List Int))=y576 at H
   have Ny576:=am hy576.symm;clear hy576
   generalize hy579:(([y573,y576]:List (List Int)))=y579 at H
   have Ny579:=am hy579.symm;clear hy579;replace H:=bs H
   obtain⟨⟨t582,t583⟩,A11,H⟩:=H
   dsimp only at H
   obtain rfl:=Option.some.inj H
   have p562:0≤((ji4):Int):=od
   have q562:(ji4) < (l1.length:Int):=od
   obtain⟨ad562,e562,hx562_0⟩:=Kd.at_int HR1.out (ji4) p562 q562
   cases e562;replace p562:=eq_true p562;replace q562:=eq_true q562
   have p563:0≤((ji7):Int):=od
   have q563:(ji7) < (l1.length:Int):=od
   obtain⟨ad563,e563,hx563_0⟩:=Kd.at_int HR1.out (ji7) p563 q563
   obtain rfl:ad562=ad563:=(by injection e563)
   replace p563:=eq_true p563;replace q563:=eq_true q563
   go_enter Try.func164,Try.ntmps164
   go_wp2_with (first | ((with_reducible refine q7 (N:=24) rfl ?_);refine li 3 [rd l1 (ji4),1,0,0] ?_;intro v565 w12 ho13 hb;(first | rw[← Ny564.out]at ho13 | (simp only[Int.reduceToNat]at ho13;rw[← Ny564.out]at ho13));have HO566:=am (Kd.R_lower ho13 (bz HB));replace HB:=bq HB hb;clear hb ho13) | ((with_reducible refine q7 (N:=26) rfl ?_);refine li 3 [0,0,rd l1 (ji7),1] ?_;intro v568 w14 ho15 hb;(first | rw[← Ny567.out]at ho15 | (simp only[Int.reduceToNat]at ho15;rw[← Ny567.out]at ho15));have HO569:=am (Kd.R_lower (Kd.R_new' ho15 (Kd.R_lt (wR HO566))) (bz HB));replace HO566:=eR HO566 (Kd.R_base ho15) hb;replace HB:=bq HB hb;clear hb ho15;obtain⟨Ao16,co16,eo16⟩:=Kd.R_slice HO566.out;subst eo16;obtain⟨Ao17,co17,eo17⟩:=Kd.R_slice HO569.out;subst eo17) | ((with_reducible refine q7 (N:=27) rfl ?_);refine Kd.N_lit (Kd.slice 3 (Kd.int .i64)) _ 23 ?hg (N':=27) ?hd (xs:=([y564,y567]:List (List Int))) (inner:=[.slice Ao16 y564.length co16,.slice Ao17 y567.length co17]) (ok:=(fun _=>True)) (okp:=(fun _=>True)) ?hr ?hp (fun _ hk=>hk) ((show ∀ k_,w14.heap.size≤k_→(fun _=>True) k_ from fun k_ hk=>trivial) _ (Nat.le_refl _)) (Below.refl _ _) (Nat.le_refl _) (by simp) ?_;(case hd=>rfl);(case hg=>rfl);(case hr=>first | (go_simp;done) | (go_simp;rfl));(case hp=>exact(Reps.one (show Kd.FK (Kd.slice 3 (Kd.int .i64)) _ _ y564 [.slice Ao16 y564.length co16] from (Kd.FK_slice_mk (Kd.R_reads' (Kd.R_mono (ok':=(fun _=>True)) (HO566.out) (fun k_ hk=>trivial))).2.1 (Kd.R_F (Kd.R_mono (ok':=(fun _=>True)) (HO566.out) (fun k_ hk=>trivial))))) (Reps.one (show Kd.FK (Kd.slice 3 (Kd.int .i64)) _ _ y567 [.slice Ao17 y567.length co17] from (Kd.FK_slice_mk (Kd.R_reads' (Kd.R_mono (ok':=(fun _=>True)) (HO569.out) (fun k_ hk=>trivial))).2.1 (Kd.R_F (Kd.R_mono (ok':=(fun _=>True)) (HO569.out) (fun k_ hk=>trivial))))) (Reps.none _ _))));intro v571 w18 ho19 hb hg_ hnew_;clear hg_ hnew_;(first | rw[← Ny570.out]at ho19 | (simp only[Int.reduceToNat]at ho19;rw[← Ny570.out]at ho19));have HO572:=am (Kd.N_lower ho19 (bz HB));replace HB:=bq HB hb;clear HO566 HO569;clear hb ho19) | ((with_reducible refine q7 (N:=33) rfl ?_);refine li 3 [rd l1 (ji4),0,1,0] ?_;intro v574 w20 ho21 hb;(first | rw[← Ny573.out]at ho21 | (simp only[Int.reduceToNat]at ho21;rw[← Ny573.out]at ho21));replace HO572:=eN HO572 (Kd.R_base ho21) hb;have HO575:=am (Kd.R_lower ho21 (bz HB));replace HB:=bq HB hb;clear hb ho21) | ((with_reducible refine q7 (N:=35) rfl ?_);refine li 3 [0,rd l1 (ji7),0,1] ?_;intro v577 w22 ho23 hb;(first | rw[← Ny576.out]at ho23 | (simp only[Int.reduceToNat]at ho23;rw[← Ny576.out]at ho23));replace HO572:=eN HO572 (Kd.R_base ho23) hb;have HO578:=am (Kd.R_lower (Kd.R_new' ho23 (Kd.R_lt (wR HO575))) (bz HB));replace HO575:=eR HO575 (Kd.R_base ho23) hb;replace HB:=bq HB hb;clear hb ho23;obtain⟨Ao24,co24,eo24⟩:=Kd.R_slice HO575.out;subst eo24;obtain⟨Ao25,co25,eo25⟩:=Kd.R_slice HO578.out;subst eo25) | ((with_reducible refine q7 (N:=36) rfl ?_);refine Kd.N_lit (Kd.slice 3 (Kd.int .i64)) _ 23 ?hg (N':=36) ?hd (xs:=([y573,y576]:List (List Int))) (inner:=[.slice Ao24 y573.length co24,.slice Ao25 y576.length co25]) (ok:=(fun k_=>some k_≠(v571:Value).ownBlock)) (okp:=(fun k_=>some k_≠(v571:Value).ownBlock)) ?hr ?hp (fun _ hk=>hk) ((show ∀ k_,w22.heap.size≤k_→(fun k_=>some k_≠(v571:Value).ownBlock) k_ from fun k_ hk=>Kd.fresh' (Kd.N_lt (wN HO572)) k_ hk) _ (Nat.le_refl _)) (Below.refl _ _) (Nat.le_refl _) (by simp) ?_;(case hd=>rfl);(case hg=>rfl);(case hr=>first | (go_simp;done) | (go_simp;rfl));(case hp=>exact(Reps.one (show Kd.FK (Kd.slice 3 (Kd.int .i64)) _ _ y573 [.slice Ao24 y573.length co24] from (Kd.FK_slice_mk (Kd.R_reads' (Kd.R_mono (ok':=(fun k_=>some k_≠(v571:Value).ownBlock)) (Kd.R_apart' (HO575.out) (Kd.N_typed HO572.out) (by decide)) (fun k_ hk=>hk.2))).2.1 (Kd.R_F (Kd.R_mono (ok':=(fun k_=>some k_≠(v571:Value).ownBlock)) (Kd.R_apart' (HO575.out) (Kd.N_typed HO572.out) (by decide)) (fun k_ hk=>hk.2))))) (Reps.one (show Kd.FK (Kd.slice 3 (Kd.int .i64)) _ _ y576 [.slice Ao25 y576.length co25] from (Kd.FK_slice_mk (Kd.R_reads' (Kd.R_mono (ok':=(fun k_=>some k_≠(v571:Value).ownBlock)) (Kd.R_apart' (HO578.out) (Kd.N_typed HO572.out) (by decide)) (fun k_ hk=>hk.2))).2.1 (Kd.R_F (Kd.R_mono (ok':=(fun k_=>some k_≠(v571:Value).ownBlock)) (Kd.R_apart' (HO578.out) (Kd.N_typed HO572.out) (by decide)) (fun k_ hk=>hk.2))))) (Reps.none _ _))));intro v580 w26 ho27 hb hg_ hnew_;clear hg_ hnew_;(first | rw[← Ny579.out]at ho27 | (simp only[Int.reduceToNat]at ho27;rw[← Ny579.out]at ho27));replace HO572:=eN HO572 (Kd.N_base ho27) hb;have HO581:=am (Kd.N_lower ho27 (bz HB));replace HB:=bq HB hb;clear HO575 HO578;clear hb ho27;obtain⟨Ao28,co28,eo28⟩:=Kd.N_slice HO581.out;subst eo28) | ((with_reducible refine qe (f:=134) rfl ?_);refine gl 47 Try.func134 #[.int .i64 a0,.slice Ao28 y579.length co28] ?_;(with_reducible refine(Qa.calls k a0 _ _ y579 t582 t583 _ ?_ ?_ A11.out).mono ?_);exact Kd.C_below (Kd.N_reads' HO581.out).2.2 gs;exact(Kd.N_reads' HO581.out).2.1;rintro e w29 ⟨v584,rfl,ho0,hb⟩;refine⟨_,rfl,?_⟩;replace HO572:=eN HO572 (Kd.R_base ho0) hb;replace HO581:=eN HO581 (Kd.R_base ho0) hb;have HO585:=am (Kd.R_lower ho0 (bz HB));replace HB:=bq HB hb;(try clear hb);(try clear ho0)))
   go_ret
   exact⟨_,by first | rfl | (simp[Qy,Qx]<;>rfl) | (simp only[← hji4,← hji7];first | rfl | (simp[Qy,Qx]<;>rfl)) | (simp[*,Qy,Qx]<;>rfl),wR HO585,bw HB⟩
  ·rw[if_neg c10]at H
   have c10b0:=beq_eq_false_iff_ne.mpr c10;have c10b1:=bne_iff_ne.mpr c10
   by_cases c30:(wrap64 (Int.tdiv a2 9))=2
   ·rw[if_pos c30]at H
    have c30b0:=beq_iff_eq.mpr c30;have c30b1:=bne_eq_false_iff_eq.mpr c30;clear c30
    generalize hy586:(([rd l1 (ji4),0,0,1]:List Int))=y586 at H
    have Ny586:=am hy586.symm;clear hy586
    generalize hy589:(([0,rd l1 (ji7),1,0]:List Int))=y589 at H
    have Ny589:=am hy589.symm;clear hy589
    generalize hy592:(([y586,y589]:List (List Int)))=y592 at H
    have Ny592:=am hy592.symm;clear hy592;replace H:=bs H
    obtain⟨⟨t595,t596⟩,A31,H⟩:=H
    dsimp only at H
    obtain rfl:=Option.some.inj H
    have p562:0≤((ji4):Int):=od
    have q562:(ji4) < (l1.length:Int):=od
    obtain⟨ad562,e562,hx562_0⟩:=Kd.at_int HR1.out (ji4) p562 q562
    cases e562;replace p562:=eq_true p562;replace q562:=eq_true q562
    have p563:0≤((ji7):Int):=od
    have q563:(ji7) < (l1.length:Int):=od
    obtain⟨ad563,e563,hx563_0⟩:=Kd.at_int HR1.out (ji7) p563 q563
    obtain rfl:ad562=ad563:=(by injection e563)
    replace p563:=eq_true p563;replace q563:=eq_true q563
    go_enter Try.func164,Try.ntmps164
    go_wp2_with (first | ((with_reducible refine q7 (N:=24) rfl ?_);refine li 3 [rd l1 (ji4),1,0,0] ?_;intro v565 w32 ho33 hb;(first | rw[← Ny564.out]at ho33 | (simp only[Int.reduceToNat]at ho33;rw[← Ny564.out]at ho33));have HO566:=am (Kd.R_lower ho33 (bz HB));replace HB:=bq HB hb;clear hb ho33) | ((with_reducible refine q7 (N:=26) rfl ?_);refine li 3 [0,0,rd l1 (ji7),1] ?_;intro v568 w34 ho35 hb;(first | rw[← Ny567.out]at ho35 | (simp only[Int.reduceToNat]at ho35;rw[← Ny567.out]at ho35));have HO569:=am (Kd.R_lower (Kd.R_new' ho35 (Kd.R_lt (wR HO566))) (bz HB));replace HO566:=eR HO566 (Kd.R_base ho35) hb;replace HB:=bq HB hb;clear hb ho35;obtain⟨Ao36,co36,eo36⟩:=Kd.R_slice HO566.out;subst eo36;obtain⟨Ao37,co37,eo37⟩:=Kd.R_slice HO569.out;subst eo37) | ((with_reducible refine q7 (N:=27) rfl ?_);refine Kd.N_lit (Kd.slice 3 (Kd.int .i64)) _ 23 ?hg (N':=27) ?hd (xs:=([y564,y567]:List (List Int))) (inner:=[.slice Ao36 y564.length co36,.slice Ao37 y567.length co37]) (ok:=(fun _=>True)) (okp:=(fun _=>True)) ?hr ?hp (fun _ hk=>hk) ((show ∀ k_,w34.heap.size≤k_→(fun _=>True) k_ from fun k_ hk=>trivial) _ (Nat.le_refl _)) (Below.refl _ _) (Nat.le_refl _) (by simp) ?_;(case hd=>rfl);(case hg=>rfl);(case hr=>first | (go_simp;done) | (go_simp;rfl));(case hp=>exact(Reps.one (show Kd.FK (Kd.slice 3 (Kd.int .i64)) _ _ y564 [.slice Ao36 y564.length co36] from (Kd.FK_slice_mk (Kd.R_reads' (Kd.R_mono (ok':=(fun _=>True)) (HO566.out) (fun k_ hk=>trivial))).2.1 (Kd.R_F (Kd.R_mono (ok':=(fun _=>True)) (HO566.out) (fun k_ hk=>trivial))))) (Reps.one (show Kd.FK (Kd.slice 3 (Kd.int .i64)) _ _ y567 [.slice Ao37 y567.length co37] from (Kd.FK_slice_mk (Kd.R_reads' (Kd.R_mono (ok':=(fun _=>True)) (HO569.out) (fun k_ hk=>trivial))).2.1 (Kd.R_F (Kd.R_mono (ok':=(fun _=>True)) (HO569.out) (fun k_ hk=>trivial))))) (Reps.none _ _))));intro v571 w38 ho39 hb hg_ hnew_;clear hg_ hnew_;(first | rw[← Ny570.out]at ho39 | (simp only[Int.reduceToNat]at ho39;rw[← Ny570.out]at ho39));have HO572:=am (Kd.N_lower ho39 (bz HB));replace HB:=bq HB hb;clear HO566 HO569;clear hb ho39) | ((with_reducible refine q7 (N:=40) rfl ?_);refine li 3 [rd l1 (ji4),0,0,1] ?_;intro v587 w40 ho41 hb;(first | rw[← Ny586.out]at ho41 | (simp only[Int.reduceToNat]at ho41;rw[← Ny586.out]at ho41));replace HO572:=eN HO572 (Kd.R_base ho41) hb;have HO588:=am (Kd.R_lower ho41 (bz HB));replace HB:=bq HB hb;clear hb ho41) | ((with_reducible refine q7 (N:=42) rfl ?_);refine li 3 [0,rd l1 (ji7),1,0] ?_;intro v590 w42 ho43 hb;(first | rw[← Ny589.out]at ho43 | (simp only[Int.reduceToNat]at ho43;rw[← Ny589.out]at ho43));replace HO572:=eN HO572 (Kd.R_base ho43) hb;have HO591:=am (Kd.R_lower (Kd.R_new' ho43 (Kd.R_lt (wR HO588))) (bz HB));replace HO588:=eR HO588 (Kd.R_base ho43) hb;replace HB:=bq HB hb;clear hb ho43;obtain⟨Ao44,co44,eo44⟩:=Kd.R_slice HO588.out;subst eo44;obtain⟨Ao45,co45,eo45⟩:=Kd.R_slice HO591.out;subst eo45) | ((with_reducible refine q7 (N:=43) rfl ?_);refine Kd.N_lit (Kd.slice 3 (Kd.int .i64)) _ 23 ?hg (N':=43) ?hd (xs:=([y586,y589]:List (List Int))) (inner:=[.slice Ao44 y586.length co44,.slice Ao45 y589.length co45]) (ok:=(fun k_=>some k_≠(v571:Value).ownBlock)) (okp:=(fun k_=>some k_≠(v571:Value).ownBlock)) ?hr ?hp (fun _ hk=>hk) ((show ∀ k_,w42.heap.size≤k_→(fun k_=>some k_≠(v571:Value).ownBlock) k_ from fun k_ hk=>Kd.fresh' (Kd.N_lt (wN HO572)) k_ hk) _ (Nat.le_refl _)) (Below.refl _ _) (Nat.le_refl _) (by simp) ?_;(case hd=>rfl);(case hg=>rfl);(case hr=>first | (go_simp;done) | (go_simp;rfl));(case hp=>exact(Reps.one (show Kd.FK (Kd.slice 3 (Kd.int .i64)) _ _ y586 [.slice Ao44 y586.length co44] from (Kd.FK_slice_mk (Kd.R_reads' (Kd.R_mono (ok':=(fun k_=>some k_≠(v571:Value).ownBlock)) (Kd.R_apart' (HO588.out) (Kd.N_typed HO572.out) (by decide)) (fun k_ hk=>hk.2))).2.1 (Kd.R_F (Kd.R_mono (ok':=(fun k_=>some k_≠(v571:Value).ownBlock)) (Kd.R_apart' (HO588.out) (Kd.N_typed HO572.out) (by decide)) (fun k_ hk=>hk.2))))) (Reps.one (show Kd.FK (Kd.slice 3 (Kd.int .i64)) _ _ y589 [.slice Ao45 y589.length co45] from (Kd.FK_slice_mk (Kd.R_reads' (Kd.R_mono (ok':=(fun k_=>some k_≠(v571:Value).ownBlock)) (Kd.R_apart' (HO591.out) (Kd.N_typed HO572.out) (by decide)) (fun k_ hk=>hk.2))).2.1 (Kd.R_F (Kd.R_mono (ok':=(fun k_=>some k_≠(v571:Value).ownBlock)) (Kd.R_apart' (HO591.out) (Kd.N_typed HO572.out) (by decide)) (fun k_ hk=>hk.2))))) (Reps.none _ _))));intro v593 w46 ho47 hb hg_ hnew_;clear hg_ hnew_;(first | rw[← Ny592.out]at ho47 | (simp only[Int.reduceToNat]at ho47;rw[← Ny592.out]at ho47));replace HO572:=eN HO572 (Kd.N_base ho47) hb;have HO594:=am (Kd.N_lower ho47 (bz HB));replace HB:=bq HB hb;clear HO588 HO591;clear hb ho47;obtain⟨Ao48,co48,eo48⟩:=Kd.N_slice HO594.out;subst eo48) | ((with_reducible refine qe (f:=134) rfl ?_);refine gl 47 Try.func134 #[.int .i64 a0,.slice Ao48 y592.length co48] ?_;(with_reducible refine(Qa.calls k a0 _ _ y592 t595 t596 _ ?_ ?_ A31.out).mono ?_);exact Kd.C_below (Kd.N_reads' HO594.out).2.2 gs;exact(Kd.N_reads' HO594.out).2.1;rintro e w49 ⟨v597,rfl,ho0,hb⟩;refine⟨_,rfl,?_⟩;replace HO572:=eN HO572 (Kd.R_base ho0) hb;replace HO594:=eN HO594 (Kd.R_base ho0) hb;have HO598:=am (Kd.R_lower ho0 (bz HB));replace HB:=bq HB hb;(try clear hb);(try clear ho0)))
    go_ret
    exact⟨_,by first | rfl | (simp[Qy,Qx]<;>rfl) | (simp only[← hji4,← hji7];first | rfl | (simp[Qy,Qx]<;>rfl)) | (simp[*,Qy,Qx]<;>rfl),wR HO598,bw HB⟩
   ·rw[if_neg c30]at H
    have c30b0:=beq_eq_false_iff_ne.mpr c30;have c30b1:=bne_iff_ne.mpr c30;replace H:=bs H
    obtain⟨⟨t599,t600⟩,A50,H⟩:=H
    dsimp only at H
    obtain rfl:=Option.some.inj H
    have p562:0≤((ji4):Int):=od
    have q562:(ji4) < (l1.length:Int):=od
    obtain⟨ad562,e562,hx562_0⟩:=Kd.at_int HR1.out (ji4) p562 q562
    cases e562;replace p562:=eq_true p562;replace q562:=eq_true q562
    have p563:0≤((ji7):Int):=od
    have q563:(ji7) < (l1.length:Int):=od
    obtain⟨ad563,e563,hx563_0⟩:=Kd.at_int HR1.out (ji7) p563 q563
    obtain rfl:ad562=ad563:=(by injection e563)
    replace p563:=eq_true p563;replace q563:=eq_true q563
    go_enter Try.func164,Try.ntmps164
    go_wp2_with (first | ((with_reducible refine q7 (N:=24) rfl ?_);refine li 3 [rd l1 (ji4),1,0,0] ?_;intro v565 w51 ho52 hb;(first | rw[← Ny564.out]at ho52 | (simp only[Int.reduceToNat]at ho52;rw[← Ny564.out]at ho52));have HO566:=am (Kd.R_lower ho52 (bz HB));replace HB:=bq HB hb;clear hb ho52) | ((with_reducible refine q7 (N:=26) rfl ?_);refine li 3 [0,0,rd l1 (ji7),1] ?_;intro v568 w53 ho54 hb;(first | rw[← Ny567.out]at ho54 | (simp only[Int.reduceToNat]at ho54;rw[← Ny567.out]at ho54));have HO569:=am (Kd.R_lower (Kd.R_new' ho54 (Kd.R_lt (wR HO566))) (bz HB));replace HO566:=eR HO566 (Kd.R_base ho54) hb;replace HB:=bq HB hb;clear hb ho54;obtain⟨Ao55,co55,eo55⟩:=Kd.R_slice HO566.out;subst eo55;obtain⟨Ao56,co56,eo56⟩:=Kd.R_slice HO569.out;subst eo56) | ((with_reducible refine q7 (N:=27) rfl ?_);refine Kd.N_lit (Kd.slice 3 (Kd.int .i64)) _ 23 ?hg (N':=27) ?hd (xs:=([y564,y567]:List (List Int))) (inner:=[.slice Ao55 y564.length co55,.slice Ao56 y567.length co56]) (ok:=(fun _=>True)) (okp:=(fun _=>True)) ?hr ?hp (fun _ hk=>hk) ((show ∀ k_,w53.heap.size≤k_→(fun _=>True) k_ from fun k_ hk=>trivial) _ (Nat.le_refl _)) (Below.refl _ _) (Nat.le_refl _) (by simp) ?_;(case hd=>rfl);(case hg=>rfl);(case hr=>first | (go_simp;done) | (go_simp;rfl));(case hp=>exact(Reps.one (show Kd.FK (Kd.slice 3 (Kd.int .i64)) _ _ y564 [.slice Ao55 y564.length co55] from (Kd.FK_slice_mk (Kd.R_reads' (Kd.R_mono (ok':=(fun _=>True)) (HO566.out) (fun k_ hk=>trivial))).2.1 (Kd.R_F (Kd.R_mono (ok':=(fun _=>True)) (HO566.out) (fun k_ hk=>trivial))))) (Reps.one (show Kd.FK (Kd.slice 3 (Kd.int .i64)) _ _ y567 [.slice Ao56 y567.length co56] from (Kd.FK_slice_mk (Kd.R_reads' (Kd.R_mono (ok':=(fun _=>True)) (HO569.out) (fun k_ hk=>trivial))).2.1 (Kd.R_F (Kd.R_mono (ok':=(fun _=>True)) (HO569.out) (fun k_ hk=>trivial))))) (Reps.none _ _))));intro v571 w57 ho58 hb hg_ hnew_;clear hg_ hnew_;(first | rw[← Ny570.out]at ho58 | (simp only[Int.reduceToNat]at ho58;rw[← Ny570.out]at ho58));have HO572:=am (Kd.N_lower ho58 (bz HB));replace HB:=bq HB hb;clear HO566 HO569;clear hb ho58;obtain⟨Ao59,co59,eo59⟩:=Kd.N_slice HO572.out;subst eo59) | ((with_reducible refine qe (f:=134) rfl ?_);refine gl 47 Try.func134 #[.int .i64 a0,.slice Ao59 y570.length co59] ?_;(with_reducible refine(Qa.calls k a0 _ _ y570 t599 t600 _ ?_ ?_ A50.out).mono ?_);exact Kd.C_below (Kd.N_reads' HO572.out).2.2 gs;exact(Kd.N_reads' HO572.out).2.1;rintro e w60 ⟨v601,rfl,ho0,hb⟩;refine⟨_,rfl,?_⟩;replace HO572:=eN HO572 (Kd.R_base ho0) hb;have HO602:=am (Kd.R_lower ho0 (bz HB));replace HB:=bq HB hb;(try clear hb);(try clear ho0)))
    go_ret
    exact⟨_,by first | rfl | (simp[Qy,Qx]<;>rfl) | (simp only[← hji4,← hji7];first | rfl | (simp[Qy,Qx]<;>rfl)) | (simp[*,Qy,Qx]<;>rfl),wR HO602,bw HB⟩
 ·rw[if_neg c5]at H
  exact absurd H (by simp)
def Qn.f (k:Nat) (a0:Int) (a1:Int):Option (List Int×Bool):=(j8.f k a0).bind fun bt603=>(if bt603.2=true then ((zq.f a1 0 26).bind fun t607=>(if t607=true then ((Qv.f k a0 bt603.1 a1).bind fun t608=>(some (t608,true))) else (some ((([]:List Int)),false)))) else (some ((([]:List Int)),false)))
theorem Qn.mono :∀ a0 a1 k,LeO (Qn.f k a0 a1) (Qn.f (k+1) a0 a1):=by
 intro a0 a1 k
 unfold Qn.f
 repeat' first | (with_reducible first | apply j8.mono | apply Qv.mono | exact LeO.refl _ | exact LeO.none _ | refine LeO.ite ?_ ?_ | refine LeO.bind ?_ (fun _=>?_)) | (first | apply j8.mono | apply Qv.mono | exact LeO.none _ | refine LeO.ite ?_ ?_ | refine LeO.bind ?_ (fun _=>?_))
theorem Qn.calls (k:Nat) (a0:Int) (a1:Int) (r1:List Int) (r2:Bool) (w:World) (h:Qn.f k a0 a1=some (r1,r2)):
  Calls Try.prog 146 #[.int .i64 a0,.int .i64 a1] w fun e w'=>∃ v0_:Value,e=.returned (.tuple #[v0_,.bool r2])∧Kd.R (Kd.int .i64) 3 w' w.heap.size (fun _=>True) v0_ r1∧Below w.heap.size w w':=by
 have HB:=am (Below.refl w.heap.size w)
 have H:((j8.f k a0).bind fun bt603=>(if bt603.2=true then ((zq.f a1 0 26).bind fun t607=>(if t607=true then ((Qv.f k a0 bt603.1 a1).bind fun t608=>(some (t608,true))) else (some ((([]:List Int)),false)))) else (some ((([]:List Int)),false))))=some (r1,r2):=h
 clear h;replace H:=bs H
 obtain⟨⟨t603,t604⟩,A3,H⟩:=H
 dsimp only at H
 by_cases c4:t604=true
 ·subst c4
  rw[if_pos rfl]at H
  replace H:=bs H;obtain⟨t607,A5,H⟩:=H
  by_cases c6:t607=true
  ·subst c6
   rw[if_pos rfl]at H
   replace H:=bs H;obtain⟨t608,A7,H⟩:=H
   simp only[Option.some.injEq,Prod.mk.injEq]at H
   obtain⟨rfl,rfl⟩:=H
   go_enter Try.func146,Try.ntmps146
   go_wp2_with (first | ((with_reducible refine qe (f:=163) rfl ?_);refine gl 10 Try.func163 #[.int .i64 a0] ?_;(with_reducible refine(j8.calls k a0 t603 true _ A3.out).mono ?_);rintro e w8 ⟨v605,rfl,ho0,hb⟩;refine⟨_,rfl,?_⟩;have HO606:=am (Kd.R_lower ho0 (bz HB));replace HB:=bq HB hb;(try clear hb);(try clear ho0)) | (go_at_call 87;(with_reducible refine(zq.calls a1 0 26 true _ A5.out).mono ?_);rintro e w' ⟨rfl,⟨nd,rfl⟩⟩;obtain⟨Ao9,co9,eo9⟩:=Kd.R_slice HO606.out;subst eo9) | ((with_reducible refine qe (f:=164) rfl ?_);refine gl 24 Try.func164 #[.int .i64 a0,.slice Ao9 t603.length co9,.int .i64 a1] ?_;(with_reducible refine(Qv.calls k a0 _ _ t603 a1 t608 _ ?_ ?_ A7.out).mono ?_);exact Kd.C_below (Kd.R_reads' HO606.out).2.2 gs;exact(Kd.R_reads' HO606.out).2.1;rintro e w10 ⟨v609,rfl,ho0,hb⟩;refine⟨_,rfl,?_⟩;have HO610:=am (Kd.R_lower (Kd.R_new' ho0 (Kd.R_lt (wR HO606))) (bz HB));replace HO606:=eR HO606 (Kd.R_base ho0) hb;replace HB:=bq HB hb;(try clear hb);(try clear ho0)))
   go_ret2
   exact⟨_,fq,Kd.R_below (Kd.R_mono HO610.out (fun _ hk=>trivial)) gs,bw HB⟩
  ·replace c6:=Bool.eq_false_iff.mpr c6
   subst c6
   rw[if_neg (show ¬ (false=true) by decide)]at H
   generalize hy611:(([]:List Int))=y611 at H
   have Ny611:=am hy611.symm;clear hy611
   simp only[Option.some.injEq,Prod.mk.injEq]at H
   obtain⟨rfl,rfl⟩:=H
   go_enter Try.func146,Try.ntmps146
   go_wp2_with (first | ((with_reducible refine qe (f:=163) rfl ?_);refine gl 10 Try.func163 #[.int .i64 a0] ?_;(with_reducible refine(j8.calls k a0 t603 true _ A3.out).mono ?_);rintro e w11 ⟨v605,rfl,ho0,hb⟩;refine⟨_,rfl,?_⟩;have HO606:=am (Kd.R_lower ho0 (bz HB));replace HB:=bq HB hb;(try clear hb);(try clear ho0)) | (go_at_call 87;(with_reducible refine(zq.calls a1 0 26 false _ A5.out).mono ?_);rintro e w' ⟨rfl,⟨nd,rfl⟩⟩) | ((with_reducible refine q7 (N:=20) rfl ?_);refine li 3 ([]:List Int) ?_;intro v612 w12 ho13 hb;(first | rw[← Ny611.out]at ho13 | (simp only[Int.reduceToNat]at ho13;rw[← Ny611.out]at ho13));have HO613:=am (Kd.R_lower (Kd.R_new' ho13 (Kd.R_lt (wR HO606))) (bz HB));replace HO606:=eR HO606 (Kd.R_base ho13) hb;replace HB:=bq HB hb;clear hb ho13))
   go_ret2
   exact⟨_,fq,Kd.R_below (Kd.R_mono HO613.out (fun _ hk=>trivial)) gs,bw HB⟩
 ·replace c4:=Bool.eq_false_iff.mpr c4
  subst c4
  rw[if_neg (show ¬ (false=true) by decide)]at H
  generalize hy614:(([]:List Int))=y614 at H
  have Ny614:=am hy614.symm;clear hy614
  simp only[Option.some.injEq,Prod.mk.injEq]at H
  obtain⟨rfl,rfl⟩:=H
  go_enter Try.func146,Try.ntmps146
  go_wp2_with (first | ((with_reducible refine qe (f:=163) rfl ?_);refine gl 10 Try.func163 #[.int .i64 a0] ?_;(with_reducible refine(j8.calls k a0 t603 false _ A3.out).mono ?_);rintro e w14 ⟨v605,rfl,ho0,hb⟩;refine⟨_,rfl,?_⟩;have HO606:=am (Kd.R_lower ho0 (bz HB));replace HB:=bq HB hb;(try clear hb);(try clear ho0)) | ((with_reducible refine q7 (N:=20) rfl ?_);refine li 3 ([]:List Int) ?_;intro v615 w15 ho16 hb;(first | rw[← Ny614.out]at ho16 | (simp only[Int.reduceToNat]at ho16;rw[← Ny614.out]at ho16));have HO616:=am (Kd.R_lower (Kd.R_new' ho16 (Kd.R_lt (wR HO606))) (bz HB));replace HO606:=eR HO606 (Kd.R_base ho16) hb;replace HB:=bq HB hb;clear hb ho16))
  go_ret2
  exact⟨_,fq,Kd.R_below (Kd.R_mono HO616.out (fun _ hk=>trivial)) gs,bw HB⟩
def qaa (p x:Int):Bool:=decide (0≤x) && decide (x≤wrap64 (p - 1))
theorem qi5 (p x:Int):zq.f x 0 (wrap64 (p - 1))=some (qaa p x):=by
 unfold zq.f qaa
 by_cases h:x≥0
 ·have h':0≤x:=h
  simp[h,h']
 ·have h':¬ 0≤x:=h
  simp[h,h']
def Qe.f (k:Nat) (a0:Int) (l1:List Int):Option Bool:=(jd.f a0).bind fun t=>
 if t=true then (if l1.length=4 then (if l1.all (qaa a0)=true then (qu.f k a0 l1).bind fun row=>(zb.f k l1).bind fun z=>if row.length=4 then some (!z && (row == l1)) else none else some false) else some false) else some false
theorem Qe.mono :∀ a0 a1 k,LeO (Qe.f k a0 a1) (Qe.f (k+1) a0 a1):=by
 intro a0 a1 k
 unfold Qe.f
 refine LeO.bind (LeO.refl _) fun _=>LeO.ite (LeO.ite (LeO.ite (LeO.bind (qu.mono _ _ _) fun _=>LeO.bind (zb.mono _ _) fun _=>LeO.refl _) (LeO.refl _)) (LeO.refl _)) (LeO.refl _)
theorem quiet_ {P:Program} {f:FuncId} {args:Array Value} {w:World} {v:Value} (h:Calls P f args w fun e w'=>e=.returned v∧Drawn0 w w'):Calls P f args w fun e w'=>e=.returned v∧∃ n,w'=w.drewN n:=
 h.mono fun e w' h=>⟨h.1,h.2.out⟩
theorem Qe.calls (k:Nat) (a0:Int) (A1:Option Addr) (c1:Nat) (l1:List Int) (r:Bool) (w:World) (hr1:Kd.C (Kd.int .i64) w A1 l1.length l1) (hc1:l1.length≤c1) (h:Qe.f k a0 l1=some r):
  Calls Try.prog 84 #[.int .i64 a0,.slice A1 l1.length c1] w fun e w'=>e=.returned (.bool r)∧Below w.heap.size w w':=by
 obtain⟨t,hprime,h'⟩:=Option.bind_eq_some_iff.1 h
 clear h
 have HPR:=Lib.hid hprime
 have HR1:=Lib.hid hr1
 have HC1:=Lib.hid hc1
 have H:=Lib.hid h'
 clear hprime hr1 hc1 h'
 cases t with
 | false=>
  obtain rfl:r=false:=by have h:=H.out;simp at h;exact h
  go_enter Try.func84,Try.ntmps84
  go_wp2_with fail
  refine(jd.calls a0 false _ HPR.out).mono ?_
  rintro e w1 ⟨rfl,⟨q,rfl⟩⟩
  go_wp2;go_ret
  exact⟨rfl,qh (Below.refl _ _) q⟩
 | true =>
  by_cases hl:l1.length=4
  ·have HL:=Lib.hid hl
   go_enter Try.func84,Try.ntmps84
   rw[hl]
   have h8:((4:Int) !=4)=false:=rfl
   clear hl
   go_wp2_with fail
   refine(jd.calls a0 true _ HPR.out).mono ?_
   rintro e w1 ⟨rfl,⟨q,rfl⟩⟩
   go_wp2_with fail
   have hb0:Below w.heap.size w (w.drewN q):=qh (Below.refl _ _) q
   generalize w.drewN q=w1 at hb0 ⊢
   go_loopw [5] (fun i w'=>∃ j:Nat,j≤4∧i=.int .i64 j∧(l1.take j).all (qaa a0)=true∧Below w.heap.size w w') (fun i _=>4 - (intOf i).toNat)
   case atStart=>exact⟨0,by omega,rfl,by simp,hb0⟩
   case round=>
    clear hb0
    obtain⟨j,hj,rfl,hall,hB⟩:=hrel
    have HB:=Lib.hid hB
    have HALL:=Lib.hid hall
    have HJ:=Lib.hid hj
    clear hB hall hj
    by_cases hlt:j < 4
    ·obtain⟨ad,e,hx⟩:=Kd.at_int (Kd.C_below HR1.out HB.out) (j:Int) (by omega) (by have:=HL.out;omega)
     subst e
     simp only[Int.toNat_natCast]at hx
     have hd1:decide ((j:Int) < 4)=true:=decide_eq_true (by omega)
     have p1:(0≤(j:Int))=True:=eq_true (by omega)
     have q1:((j:Int) < 4)=True:=eq_true (by omega)
     have hlow:=qi5 a0 (rd l1 (j:Int))
     have HLT:=Lib.hid hlt
     cases hv:qaa a0 (rd l1 (j:Int)) with
     | false=>
      rw[hv]at hlow
      have HLOW:=Lib.hid hlow
      have hr:r=false:=by
       have h:=H.out
       have ha:l1.all (qaa a0)=false:=by
        rw[List.all_eq_false]
        exact⟨rd l1 (j:Int),by rw[rd,List.getD_eq_getElem?_getD,Int.toNat_natCast,List.getElem?_eq_getElem (by have:=HL.out;omega)];exact List.getElem_mem _,by simp[hv]⟩
       rw[if_pos trivial,if_pos HL.out,if_neg (by simp[ha])]at h
       exact(Option.some.inj h).symm
      subst hr;clear hlt hv hlow
      go_wp2_with fail
      refine(zq.calls _ _ _ _ _ HLOW.out).mono ?_
      rintro e w2 ⟨rfl,⟨q,rfl⟩⟩
      go_wp2;go_ret
      exact⟨rfl,qh HB.out q⟩
     | true=>
      rw[hv]at hlow
      have HLOW:=Lib.hid hlow
      have HALL2:Hid ((l1.take (j+1)).all (qaa a0)=true):=Lib.hid (by
       have h9:j < l1.length:=by have:=HL.out;omega
       rw[List.take_add_one,List.all_append,HALL.out,List.getElem?_eq_getElem h9]
       have e:rd l1 (j:Int)=l1[j]:=by simp[rd,List.getD_eq_getElem?_getD,h9]
       rw[e]at hv
       simp[hv])
      clear hlt hv hlow
      go_wp2_with fail
      refine(zq.calls _ _ _ _ _ HLOW.out).mono ?_
      rintro e w2 ⟨rfl,⟨q,rfl⟩⟩
      go_wp2_with fail
      have hw1:wrap64 ((j:Int)+1)=((j+1:Nat):Int):=by have:=HLT.out;unfold wrap64;omega
      go_roundw
      case measure=>(try rw[hw1]);simp only[intOf];have:=HLT.out;omega
      case rel=>exact⟨j+1,by have:=HLT.out;omega,by first | rw[hw1] | go_num,HALL2.out,qh HB.out q⟩
    ·have hje:j=4:=by have:=HJ.out;omega
     subst hje
     have hd1:decide (((4:Nat):Int) < 4)=false:=rfl
     have h2:((qu.f k a0 l1).bind fun row=>(zb.f k l1).bind fun z=>if row.length=4 then some (!z && (row == l1)) else none)=some r:=by
      have h:=H.out
      rw[if_pos trivial,if_pos HL.out,if_pos (by have h:=HALL.out;rwa [List.take_of_length_le (by have:=HL.out;omega)]at h)]at h
      exact h
     obtain⟨row,hrow,h3⟩:=Option.bind_eq_some_iff.1 h2
     obtain⟨z,hz,h4⟩:=Option.bind_eq_some_iff.1 h3
     have hrl:row.length=4:=by
      by_cases e:row.length=4
      ·exact e
      ·rw[if_neg e]at h4;simp at h4
     rw[if_pos hrl]at h4
     have HROW:=Lib.hid hrow
     have HZ:=Lib.hid hz
     have HRES:=Lib.hid (Option.some.inj h4)
     have HRL:=Lib.hid hrl
     have hcall:=qu.calls k a0 A1 c1 l1 row wr (Kd.C_below HR1.out HB.out) HC1.out hrow
     rw[HL.out]at hcall
     have HCALL:=Lib.hid hcall
     clear hlt HALL h2 h3 h4 hrow hz hrl H hcall
     go_wp2_with fail
     refine HCALL.out.mono ?_
     rintro e w2 ⟨v,rfl,hR,hb⟩
     obtain⟨A2,c2,rfl⟩:=Kd.R_slice hR
     have HB2:Hid (Below w.heap.size w w2):=Lib.hid (HB.out.trans (hb.mono HB.out.size))
     have HC2:=Lib.hid (Kd.R_reads' hR).2.2
     clear hR hb HCALL
     rw[HRL.out]
     obtain⟨ad,e,hx0⟩:=Kd.at_int (Kd.C_below HR1.out HB2.out) 0 (by omega) (by have:=HL.out;omega)
     subst e
     obtain⟨_,e,hx1⟩:=Kd.at_int (Kd.C_below HR1.out HB2.out) 1 (by omega) (by have:=HL.out;omega)
     cases e
     obtain⟨_,e,hx2⟩:=Kd.at_int (Kd.C_below HR1.out HB2.out) 2 (by omega) (by have:=HL.out;omega)
     cases e
     obtain⟨_,e,hx3⟩:=Kd.at_int (Kd.C_below HR1.out HB2.out) 3 (by omega) (by have:=HL.out;omega)
     cases e
     obtain⟨ad2,e,hy0⟩:=Kd.at_int HC2.out 0 (by omega) (by have:=HRL.out;omega)
     subst e
     obtain⟨_,e,hy1⟩:=Kd.at_int HC2.out 1 (by omega) (by have:=HRL.out;omega)
     cases e
     obtain⟨_,e,hy2⟩:=Kd.at_int HC2.out 2 (by omega) (by have:=HRL.out;omega)
     cases e
     obtain⟨_,e,hy3⟩:=Kd.at_int HC2.out 3 (by omega) (by have:=HRL.out;omega)
     cases e
     rw[show ((0:Int)).toNat=0 from rfl,Addr.add_zero']at hx0 hy0
     simp only[show (1:Int).toNat=1 from rfl,show (2:Int).toNat=2 from rfl,show (3:Int).toNat=3 from rfl,Nat.reduceMul,Nat.reduceEqDiff,Go.Addr.add,↓reduceIte]at hx1 hx2 hx3 hy1 hy2 hy3
     have hq:∀ nq:Nat,Calls Try.prog 79 #[.slice (some ad) 4 c1] (w2.drewN nq) fun e w'=>e=.returned (.bool z)∧∃ n,w'=(w2.drewN nq).drewN n:=fun nq=>by
      have h:=quiet_ (zb.calls k (some ad) c1 l1 z (w2.drewN nq) (Kd.C_drewN (Kd.C_below HR1.out HB2.out) nq) HC1.out HZ.out)
      rwa [HL.out]at h
     have hrow4:row=[rd row 0,rd row 1,rd row 2,rd row 3]:=by
      match row,HRL.out with
      | [_,_,_,_],_=>rfl
     have hl4:l1=[rd l1 0,rd l1 1,rd l1 2,rd l1 3]:=by
      match l1,HL.out with
      | [_,_,_,_],_=>rfl
     have HEQ:Hid ((row == l1)=((rd row 0 == rd l1 0) && (rd row 1 == rd l1 1) && (rd row 2 == rd l1 2) && (rd row 3 == rd l1 3))):=Lib.hid (by
      conv=>lhs;rw[hrow4,hl4]
      rw[Bool.eq_iff_iff]
      simp[and_assoc])
     clear hrow4 hl4
     generalize rd row 0=b0 at*
     generalize rd row 1=b1 at*
     generalize rd row 2=b2 at*
     generalize rd row 3=b3 at*
     generalize rd l1 0=a0' at*
     generalize rd l1 1=a1' at*
     generalize rd l1 2=a2' at*
     generalize rd l1 3=a3' at*
     have HRES2:Hid ((!z && (((b0 == a0') && (b1 == a1') && (b2 == a2') && (b3 == a3'))))=r):=Lib.hid (by rw[← HEQ.out];exact HRES.out)
     clear HEQ HRES HROW HZ
     cases z with
     | true=>
      obtain rfl:r=false:=by have h:=HRES2.out;simpa using h.symm
      go_wp2_with fail
      go_quiet ((go_at_call 79;exact Calls.quiet_of (hq _)))
      go_wp2;go_ret
      exact⟨rfl,qh HB2.out nq⟩
     | false=>
      cases e0:(b0 == a0') with
      | false=>
       obtain rfl:r=false:=by have h:=HRES2.out;rw[e0]at h;simpa using h.symm
       go_wp2_with fail
       go_quiet ((go_at_call 79;exact Calls.quiet_of (hq _)))
       go_wp2;go_ret
       exact⟨rfl,qh HB2.out nq⟩
      | true=>
       cases e1:(b1 == a1') with
       | false=>
        obtain rfl:r=false:=by have h:=HRES2.out;rw[e1]at h;simpa using h.symm
        go_wp2_with fail
        go_quiet ((go_at_call 79;exact Calls.quiet_of (hq _)))
        go_wp2;go_ret
        exact⟨rfl,qh HB2.out nq⟩
       | true=>
        cases e2:(b2 == a2') with
        | false=>
         obtain rfl:r=false:=by have h:=HRES2.out;rw[e2]at h;simpa using h.symm
         go_wp2_with fail
         go_quiet ((go_at_call 79;exact Calls.quiet_of (hq _)))
         go_wp2;go_ret
         exact⟨rfl,qh HB2.out nq⟩
        | true=>
         have hr:(b3 == a3')=r:=by have h:=HRES2.out;rw[e0,e1,e2]at h;simpa using h
         have HR:=Lib.hid hr
         clear hr
         go_wp2_with fail
         go_quiet ((go_at_call 79;exact Calls.quiet_of (hq _)))
         go_wp2;go_ret
         exact⟨by rw[← HR.out];first | rfl | simp,qh HB2.out nq⟩
  ·obtain rfl:r=false:=by have h:=H.out;rw[if_neg hl]at h;simp at h;exact h
   have h8:((l1.length:Int) !=4)=true:=bne_iff_ne.mpr (by omega)
   have h9:((l1.length:Int) == 4)=false:=beq_eq_false_iff_ne.mpr (by omega)
   clear hl
   go_enter Try.func84,Try.ntmps84
   go_wp2_with fail
   refine(jd.calls a0 true _ HPR.out).mono ?_
   rintro e w1 ⟨rfl,⟨q,rfl⟩⟩
   go_wp2;go_ret
   exact⟨rfl,qh (Below.refl _ _) q⟩
end Go.Proofs.Ytmgbpmihbljngaa.PA
