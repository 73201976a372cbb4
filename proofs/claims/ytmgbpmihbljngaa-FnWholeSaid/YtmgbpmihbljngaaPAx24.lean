-- Written by xprint.py, a program of this claim's own (over the kit's print.py)
import Derived.Test.YtmgbpmihbljngaaPAx19
import Derived.Test.YtmgbpmihbljngaaPAx20
import Derived.Test.YtmgbpmihbljngaaPAx23
import Derived.Shelf.SlicesE.Delete
namespace Go.Proofs.Ytmgbpmihbljngaa.PA
set_option maxHeartbeats 8000000
set_option maxRecDepth 100000
open Go.RowKit Go.Proofs.YtmgbpmihbljngaaW.PrintWords Go.Proofs.YtmgbpmihbljngaaW.PrintLast Go.Proofs.YtmgbpmihbljngaaW.PrintMore
attribute [local go_sem] Qg Qj Qp Qo j4 j3 Qh Qf
set_option linter.unusedVariables false
set_option linter.unusedSimpArgs false
def qr.j0 :Nat→Int→List Int→List Int→Bool→List Int→Int→Option (Int×List Int×List Int)
 | 0,_,_,_,_,_,_=>none
 | k+1,x6,x8,x10,x41,x663000,x663001=>if x41=true then (some (x6,x8,x10)) else ((zf.f k x663000 x663001 x6).bind fun bt680=>((jb.f k x663000 bt680.2 x6).bind fun bt684=>(some (x6,bt680.1,bt684.1))))
def qr.f (k:Nat) (l0:List Int):Option (Int×List Int×List Int):=(Z2.f l0).bind fun bt660=>((z7.f k bt660.1 bt660.2).bind fun bt663=>((Qi.f k bt663.1 bt663.2.1).bind fun bt668=>((qb.f k bt660.1 bt663.2.2 27).bind fun bt672=>((zi.f k bt663.1 bt663.2.1 bt672.1).bind fun bt674=>(if bt668.2=true then (if bt674.2=true then ((qb.f k bt660.1 bt672.2 3).bind fun bt678=>(qr.j0 k bt663.1 bt668.1 bt674.1 (decide (bt678.1>0)) bt660.1 bt678.2)) else (qr.j0 k bt663.1 bt668.1 bt674.1 false bt660.1 bt672.2)) else (qr.j0 k bt663.1 bt668.1 bt674.1 false bt660.1 bt672.2))))))
theorem qr.mono_l :∀ k,(∀ y0 y1 y2 y3 y4 y5,LeO (qr.j0 k y0 y1 y2 y3 y4 y5) (qr.j0 (k+1) y0 y1 y2 y3 y4 y5))
 | 0=>fun _ _ _ _ _ _ r h=>by simp[qr.j0]at h
 | k+1=>by
  have ih0:=qr.mono_l k
  ·intro y0 y1 y2 y3 y4 y5
   unfold qr.j0
   repeat' first | (with_reducible first | apply ih0 | apply zi.mono | apply Qi.mono | apply qb.mono | apply zf.mono | apply jb.mono | apply z7.mono | exact LeO.refl _ | exact LeO.none _ | refine LeO.ite ?_ ?_ | refine LeO.bind ?_ (fun _=>?_)) | (first | apply ih0 | apply zi.mono | apply Qi.mono | apply qb.mono | apply zf.mono | apply jb.mono | apply z7.mono | exact LeO.none _ | refine LeO.ite ?_ ?_ | refine LeO.bind ?_ (fun _=>?_))
theorem qr.mono :∀ a0 k,LeO (qr.f k a0) (qr.f (k+1) a0):=by
 intro a0 k
 have ih0:=qr.mono_l k
 unfold qr.f
 repeat' first | (with_reducible first | apply ih0 | apply zi.mono | apply Qi.mono | apply qb.mono | apply zf.mono | apply jb.mono | apply z7.mono | exact LeO.refl _ | exact LeO.none _ | refine LeO.ite ?_ ?_ | refine LeO.bind ?_ (fun _=>?_)) | (first | apply ih0 | apply zi.mono | apply Qi.mono | apply qb.mono | apply zf.mono | apply jb.mono | apply z7.mono | exact LeO.none _ | refine LeO.ite ?_ ?_ | refine LeO.bind ?_ (fun _=>?_))
theorem qr.calls (k:Nat) (A0:Option Addr) (c0:Nat) (l0:List Int) (r1:Int) (r2:List Int) (r3:List Int) (w:World) (hr0:Kd.C (Kd.int .u8) w A0 l0.length l0) (hc0:l0.length≤c0) (h:qr.f k l0=some (r1,r2,r3)):
  Calls Try.prog 44 #[.slice A0 l0.length c0] w fun e w'=>∃ v1_ v2_:Value,e=.returned (.tuple #[.int .i64 r1,v1_,v2_])∧Kd.V (Kd.int .i64) 3 w' w.heap.size (fun k_=>(w.heap.size≤k_)∧some k_≠(v2_:Value).ownBlock) v1_ r2∧Kd.R (Kd.int .i64) 3 w' w.heap.size (fun k_=>(w.heap.size≤k_)) v2_ r3∧Below w.heap.size w w':=by
 have HR0:=am hr0
 have HC0:=am hc0
 clear hr0 hc0
 have HB:=am (Below.refl w.heap.size w)
 have H:((Z2.f l0).bind fun bt660=>((z7.f k bt660.1 bt660.2).bind fun bt663=>((Qi.f k bt663.1 bt663.2.1).bind fun bt668=>((qb.f k bt660.1 bt663.2.2 27).bind fun bt672=>((zi.f k bt663.1 bt663.2.1 bt672.1).bind fun bt674=>(if bt668.2=true then (if bt674.2=true then ((qb.f k bt660.1 bt672.2 3).bind fun bt678=>(qr.j0 k bt663.1 bt668.1 bt674.1 (decide (bt678.1>0)) bt660.1 bt678.2)) else (qr.j0 k bt663.1 bt668.1 bt674.1 false bt660.1 bt672.2)) else (qr.j0 k bt663.1 bt668.1 bt674.1 false bt660.1 bt672.2)))))))=some (r1,r2,r3):=h
 clear h;replace H:=bs H
 obtain⟨⟨t660,t661⟩,A2,H⟩:=H
 dsimp only at H
 replace H:=bs H
 obtain⟨⟨t663,t664,t667⟩,A3,H⟩:=H
 dsimp only at H
 replace H:=bs H
 obtain⟨⟨t668,t671⟩,A4,H⟩:=H
 dsimp only at H
 replace H:=bs H
 obtain⟨⟨t672,t673⟩,A5,H⟩:=H
 dsimp only at H
 replace H:=bs H
 obtain⟨⟨t674,t675⟩,A6,H⟩:=H
 dsimp only at H
 have HC7:=am H
 clear H
 go_enter Try.func44,Try.ntmps44
 go_upto_region 5 with (first | ((with_reducible refine qe (f:=69) rfl ?_);refine gl 13 Try.func69 #[.slice A0 l0.length c0] ?_;(with_reducible refine(Z2.calls _ _ l0 t660 t661 w _ ?_ ?_ ?_ A2.out).mono ?_);(· repeat (first | (with_reducible first | exact HB.out | apply qy | apply qh | apply qv) | exact HB.out));exact HR0.out;exact HC0.out;rintro e w8 ⟨g662,rfl,hi,hb,hb2⟩;refine⟨_,rfl,?_⟩;replace HB:=am (hb);have HI662:=am (hi);(try clear hb);(try clear hb2);(try clear hi)) | ((with_reducible refine qe (f:=70) rfl ?_);refine gl 16 Try.func70 #[.pointer (some ⟨g662,0,none⟩)] ?_;(with_reducible refine(z7.calls k g662 t660 t661 t663 t664 t667 w _ ?_ ?_ A3.out).mono ?_);(· repeat (first | (with_reducible first | exact HI662.out | apply IsS112.alloc | apply IsS112.drewN | apply IsS112.drew | apply IsS112.set_1) | exact HI662.out));(· repeat (first | (with_reducible first | exact HB.out | apply qy | apply qh | apply qv | refine zd ?_ (IsS112.ge HI662.out)) | exact HB.out));rintro e w9 ⟨v665,rfl,ho0,hi,hb,hk⟩;refine⟨_,rfl,?_⟩;have HO666:=am (Kd.R_lower (Kd.R_newM (M:=fun k_=>(w.heap.size≤k_)) ho0 (jv (jr HB HI662)) (fun k_ h_=>h_)) (jv (jr HB HI662)));replace HB:=am (hb);replace HI662:=am (hi);(try clear hb);(try clear hk);(try clear hi);(try clear ho0);obtain⟨Ao10,co10,eo10⟩:=Kd.R_slice HO666.out;subst eo10) | ((with_reducible refine qe (f:=20) rfl ?_);refine gl 22 Try.func20 #[.int .i64 t663,.slice Ao10 t664.length co10] ?_;(with_reducible refine(Qi.calls k t663 _ _ t664 t668 t671 _ ?_ ?_ A4.out).mono ?_);exact Kd.C_below (Kd.R_reads' HO666.out).2.2 gs;exact(Kd.R_reads' HO666.out).2.1;rintro e w11 ⟨v669,rfl,ho0,hb⟩;refine⟨_,rfl,?_⟩;have HO670:=am (Kd.V_lower (Kd.V_mono (ok':=fun k_=>(w.heap.size≤k_)∧some k_≠(.slice Ao10 t664.length co10:Value).ownBlock∧k_≠g662) ho0 (fun k_ hk_=>⟨(Nat.le_trans (jv (jr HB HI662)) hk_),(Kd.fresh' (Kd.R_lt (wR HO666)) k_ hk_),(IsS112.fresh (zt HI662) k_ hk_)⟩)) (jv (jr HB HI662)));replace HO666:=am (Kd.R_below (wR HO666) hb);replace HB:=am (zp (jr HB HI662) hb);replace HI662:=am (IsS112.below (zt HI662) hb);(try clear hb);(try clear ho0)) | ((with_reducible refine qe (f:=71) rfl ?_);refine gl 29 Try.func71 #[.pointer (some ⟨g662,0,none⟩),.int .i64 27] ?_;(with_reducible refine(qb.calls k g662 t660 t667 27 t672 t673 w _ ?_ ?_ A5.out).mono ?_);(· repeat (first | (with_reducible first | exact HI662.out | apply IsS112.alloc | apply IsS112.drewN | apply IsS112.drew | apply IsS112.set_1) | exact HI662.out));(· repeat (first | (with_reducible first | exact HB.out | apply qy | apply qh | apply qv | refine zd ?_ (IsS112.ge HI662.out)) | exact HB.out));rintro e w12 ⟨rfl,hi,hb,hk⟩;refine⟨_,rfl,?_⟩;replace HO666:=am (Kd.R_mono (Kd.R_keep (IsS112.apart (show IsS112 w _ g662 t660 t667 from zt HI662) (wR HO666) (by decide)) hk (fun _ h=>h.2)) (fun _ h=>h.1));replace HO670:=am (Kd.V_mono (Kd.V_keep (Kd.V_mono (ok:=fun k_=>(((w.heap.size≤k_))∧(some k_≠(.slice Ao10 t664.length co10:Value).ownBlock∧k_≠g662))) (wV HO670) (fun k_ hk_=>(⟨hk_,hk_.2.2⟩:_∧k_≠g662))) hk (fun _ h=>h.2)) (fun _ h=>h.1));replace HB:=am (hb);replace HI662:=am (hi);(try clear hb);(try clear hk);(try clear hi)) | ((with_reducible refine qe (f:=42) rfl ?_);refine gl 30 Try.func42 #[.int .i64 t663,.slice Ao10 t664.length co10,.int .i64 t672] ?_;(with_reducible refine(zi.calls k t663 _ _ t664 t672 t674 t675 _ ?_ ?_ A6.out).mono ?_);exact Kd.C_below (Kd.R_reads' HO666.out).2.2 gs;exact(Kd.R_reads' HO666.out).2.1;rintro e w13 ⟨v676,rfl,ho0,hb⟩;refine⟨_,rfl,?_⟩;replace HO666:=am (Kd.R_below (wR HO666) hb);replace HO670:=eV HO670 (Kd.R_base ho0) hb;have HO677:=am (Kd.R_lower (Kd.R_newM (M:=fun k_=>(w.heap.size≤k_)) ho0 (jv (jr HB HI662)) (fun k_ h_=>h_)) (jv (jr HB HI662)));replace HB:=am (zp (jr HB HI662) hb);replace HI662:=am (IsS112.below (zt HI662) hb);(try clear hb);(try clear ho0)))
 (try simp only[Act.put,List.setIfInBounds_toArray,List.set_cons_zero,List.set_cons_succ])
 go_cut [41] (fun v41 wc=>∃ (kq:Nat) (x41_6:Bool) (x663001_6:Int),v41=.bool x41_6∧qa (qr.j0 kq t663 t668 t674 x41_6 t660 x663001_6=some (r1,r2,r3))∧qa (kq≤k)∧qa (Kd.V (Kd.int .i64) 3 wc w.heap.size (fun k_=>(w.heap.size≤k_)∧some k_≠(v676:Value).ownBlock∧k_≠g662) v669 t668)∧qa (Kd.R (Kd.int .i64) 3 wc w.heap.size (fun k_=>(w.heap.size≤k_)) v676 t674)∧qa (IsS112 w wc g662 t660 x663001_6)∧qa (Below w.heap.size w wc))
 case first=>
  have H:=HC7.out
  clear HC7
  by_cases c14:t671=true
  ·subst c14
   rw[if_pos rfl]at H
   by_cases c15:t675=true
   ·subst c15
    rw[if_pos rfl]at H
    replace H:=bs H
    obtain⟨⟨t678,t679⟩,A16,H⟩:=H
    dsimp only at H
    have H':=am H;clear H
    go_wp2_with (first | (go_at_call 71;(with_reducible refine(qb.calls k g662 t660 t673 3 t678 t679 w _ ?_ ?_ A16.out).mono ?_);(· repeat (first | (with_reducible first | exact HI662.out | apply IsS112.alloc | apply IsS112.drewN | apply IsS112.drew | apply IsS112.set_1) | exact HI662.out));(· repeat (first | (with_reducible first | exact HB.out | apply qy | apply qh | apply qv | refine zd ?_ (IsS112.ge HI662.out)) | exact HB.out));rintro e w17 ⟨rfl,hi,hb,hk⟩;replace HO666:=am (Kd.R_mono (Kd.R_keep (IsS112.apart (show IsS112 w _ g662 t660 t673 from zt HI662) (wR HO666) (by decide)) hk (fun _ h=>h.2)) (fun _ h=>h.1));replace HO670:=am (Kd.V_mono (Kd.V_keep (Kd.V_mono (ok:=fun k_=>((((w.heap.size≤k_))∧(some k_≠(.slice Ao10 t664.length co10:Value).ownBlock∧k_≠g662))∧some k_≠(v676:Value).ownBlock)) (wV HO670) (fun k_ hk_=>(⟨hk_,hk_.1.2.2⟩:_∧k_≠g662))) hk (fun _ h=>h.2)) (fun _ h=>h.1));replace HO677:=am (Kd.R_mono (Kd.R_keep (IsS112.apart (show IsS112 w _ g662 t660 t673 from zt HI662) (wR HO677) (by decide)) hk (fun _ h=>h.2)) (fun _ h=>h.1));replace HB:=am (hb);replace HI662:=am (hi);(try clear hb);(try clear hk);(try clear hi)))
    go_meet
    case rel=>exact⟨_,(decide (t678>0)),(t679),fr,H',⟨by first | omega | exact Nat.le_refl _⟩,⟨Kd.V_below (Kd.V_mono HO670.out (fun _ hk=>⟨hk.1.1,⟨hk.2,hk.1.2.2⟩⟩)) gs⟩,⟨Kd.R_below (Kd.R_mono HO677.out (fun _ hk=>hk.1)) gs⟩,⟨zt HI662⟩,⟨jr HB HI662⟩⟩
   ·replace c15:=Bool.eq_false_iff.mpr c15
    subst c15
    rw[if_neg (show ¬ (false=true) by decide)]at H
    have H':=am H;clear H;go_wp2
    go_meet
    case rel=>exact⟨_,(false),(t673),fr,H',⟨by first | omega | exact Nat.le_refl _⟩,⟨Kd.V_below (Kd.V_mono HO670.out (fun _ hk=>⟨hk.1.1,⟨hk.2,hk.1.2.2⟩⟩)) gs⟩,⟨Kd.R_below (Kd.R_mono HO677.out (fun _ hk=>hk.1)) gs⟩,⟨zt HI662⟩,⟨jr HB HI662⟩⟩
  ·replace c14:=Bool.eq_false_iff.mpr c14
   subst c14
   rw[if_neg (show ¬ (false=true) by decide)]at H
   have H':=am H;clear H;go_wp2
   go_meet
   case rel=>exact⟨_,(false),(t673),fr,H',⟨by first | omega | exact Nat.le_refl _⟩,⟨Kd.V_below (Kd.V_mono HO670.out (fun _ hk=>⟨hk.1.1,⟨hk.2,hk.1.2.2⟩⟩)) gs⟩,⟨Kd.R_below (Kd.R_mono HO677.out (fun _ hk=>hk.1)) gs⟩,⟨zt HI662⟩,⟨jr HB HI662⟩⟩
 case rest=>
  clear HC7;try clear c1;try clear c2;try clear p2;try clear c4;try clear c6;try clear c7;try clear c14;try clear c15
  obtain⟨kq,x41_6,x663001_6,rfl,HA,HJ6,HO_8,HO_10,HI662,HB⟩:=hcut
  cases kq with
  | zero=>exact absurd HA.out (by simp[qr.j0])
  | succ kj6=>
   have H:=HA.out;clear HA
   simp only[qr.j0]at H
   by_cases c18:x41_6=true
   ·subst c18
    rw[if_pos rfl]at H
    simp only[Option.some.injEq,Prod.mk.injEq]at H
    obtain⟨rfl,rfl,rfl⟩:=H;go_wp2
    go_ret3
    exact⟨_,_,fq,Kd.V_below (Kd.V_mono HO_8.out (fun _ hk=>⟨hk.1,hk.2.1⟩)) gs,wR HO_10,jr HB HI662⟩
   ·replace c18:=Bool.eq_false_iff.mpr c18
    subst c18
    rw[if_neg (show ¬ (false=true) by decide)]at H
    replace H:=bs H
    obtain⟨⟨t680,t683⟩,A19,H⟩:=H
    dsimp only at H
    replace H:=bs H
    obtain⟨⟨t684,t687⟩,A20,H⟩:=H
    dsimp only at H
    simp only[Option.some.injEq,Prod.mk.injEq]at H
    obtain⟨rfl,rfl,rfl⟩:=H
    go_wp2_with (first | ((with_reducible refine qe (f:=91) rfl ?_);refine gl 48 Try.func91 #[.pointer (some ⟨g662,0,none⟩),.int .i64 t663] ?_;(with_reducible refine(zf.calls kj6 g662 t660 x663001_6 t663 t680 t683 w _ ?_ ?_ A19.out).mono ?_);(· repeat (first | (with_reducible first | exact HI662.out | apply IsS112.alloc | apply IsS112.drewN | apply IsS112.drew | apply IsS112.set_1) | exact HI662.out));(· repeat (first | (with_reducible first | exact HB.out | apply qy | apply qh | apply qv | refine zd ?_ (IsS112.ge HI662.out)) | exact HB.out));rintro e w21 ⟨v681,rfl,ho0,hi,hb,hk⟩;refine⟨_,rfl,?_⟩;replace HO_8:=am (Kd.V_mono (Kd.V_told (Kd.V_oldK (Kd.V_mono (ok:=fun k_=>(((w.heap.size≤k_))∧(some k_≠(v676:Value).ownBlock∧k_≠g662))) (wV HO_8) (fun k_ hk_=>(⟨hk_,hk_.2.2⟩:_∧k_≠g662))) hk) (Kd.R_base ho0)) (fun _ h_=>h_.1));have HO682:=am (Kd.R_lower (Kd.R_new' (Kd.R_newM (M:=fun k_=>(w.heap.size≤k_)) ho0 (jv (jr HB HI662)) (fun k_ h_=>h_)) (Kd.R_lt (wR HO_10))) (jv (jr HB HI662)));replace HO_10:=am (Kd.R_mono (Kd.R_told (Kd.R_oldK (IsS112.apart (show IsS112 w _ g662 t660 x663001_6 from zt HI662) (wR HO_10) (by decide)) hk) (Kd.R_base ho0)) (fun _ h_=>h_.1));replace HB:=am (hb);replace HI662:=am (hi);(try clear hb);(try clear hk);(try clear hi);(try clear ho0)) | ((with_reducible refine qe (f:=92) rfl ?_);refine gl 51 Try.func92 #[.pointer (some ⟨g662,0,none⟩),.int .i64 t663] ?_;(with_reducible refine(jb.calls kj6 g662 t660 t683 t663 t684 t687 w _ ?_ ?_ A20.out).mono ?_);(· repeat (first | (with_reducible first | exact HI662.out | apply IsS112.alloc | apply IsS112.drewN | apply IsS112.drew | apply IsS112.set_1) | exact HI662.out));(· repeat (first | (with_reducible first | exact HB.out | apply qy | apply qh | apply qv | refine zd ?_ (IsS112.ge HI662.out)) | exact HB.out));rintro e w22 ⟨v685,rfl,ho0,hi,hb,hk⟩;refine⟨_,rfl,?_⟩;replace HO_8:=am (Kd.V_mono (Kd.V_told (Kd.V_oldK (Kd.V_mono (ok:=fun k_=>((((w.heap.size≤k_))∧(some k_≠(v676:Value).ownBlock∧k_≠g662))∧some k_≠(v681:Value).ownBlock)) (wV HO_8) (fun k_ hk_=>(⟨hk_,hk_.1.2.2⟩:_∧k_≠g662))) hk) (Kd.R_base ho0)) (fun _ h_=>h_.1));have HO686:=am (Kd.R_lower (Kd.R_new' (Kd.R_new' (Kd.R_newM (M:=fun k_=>(w.heap.size≤k_)) ho0 (jv (jr HB HI662)) (fun k_ h_=>h_)) (Kd.R_lt (wR HO_10))) (Kd.R_lt (wR HO682))) (jv (jr HB HI662)));replace HO_10:=am (Kd.R_mono (Kd.R_told (Kd.R_oldK (IsS112.apart (show IsS112 w _ g662 t660 t683 from zt HI662) (wR HO_10) (by decide)) hk) (Kd.R_base ho0)) (fun _ h_=>h_.1));replace HO682:=am (Kd.R_mono (Kd.R_told (Kd.R_oldK (IsS112.apart (show IsS112 w _ g662 t660 t683 from zt HI662) (wR HO682) (by decide)) hk) (Kd.R_base ho0)) (fun _ h_=>h_.1));replace HB:=am (hb);replace HI662:=am (hi);(try clear hb);(try clear hk);(try clear hi);(try clear ho0)))
    go_ret3
    exact⟨_,_,fq,Kd.R_V (oR_ HO682 (fun _ hk=>⟨hk.1.1.1,hk.2⟩)),Kd.R_below (Kd.R_mono HO686.out (fun _ hk=>hk.1.1.1)) gs,jr HB HI662⟩
def qb5.f (a0:Int) (a1:Int):Option (Int):=if a1=0 then (none) else (some (Int.tmod (wrap64 ((Int.tmod a0 a1)+a1)) a1))
theorem qb5.calls (a0:Int) (a1:Int) (r:Int) (w:World) (h:qb5.f a0 a1=some r):
  Calls Try.prog 126 #[.int .i64 a0,.int .i64 a1] w fun e w'=>e=.returned (.int .i64 r)∧Drawn0 w w':=by
 have H:(if a1=0 then (none) else (some (Int.tmod (wrap64 ((Int.tmod a0 a1)+a1)) a1)))=some r:=h
 clear h;replace H:=ifm H;obtain⟨c3,H⟩:=H;have c3b0:=beq_eq_false_iff_ne.mpr c3;have c3b1:=bne_iff_ne.mpr c3;obtain rfl:=Option.some.inj H
 go_enter Try.func126,Try.ntmps126
 go_wp2;go_ret
 exact⟨fr,df⟩
def jp.l0 :Nat→Int→Int→Int→Int→Int→Option (Int)
 | 0,_,_,_,_,_=>none
 | k+1,x0,x1,x5,x7,x8=>if x8 < x7 then (if x1=0 then (none) else (jp.l0 k x0 x1 (Int.tmod (wrap64 (x5*x0)) x1) x7 (wrap64 (x8+1)))) else (some x5)
def jp.f (k:Nat) (a0:Int) (a1:Int):Option (Int):=jp.l0 k a0 a1 1 (wrap64 (a1 - 2)) 0
theorem jp.mono_l :∀ k,(∀ y0 y1 y2 y3 y4,LeO (jp.l0 k y0 y1 y2 y3 y4) (jp.l0 (k+1) y0 y1 y2 y3 y4))
 | 0=>fun _ _ _ _ _ r h=>by simp[jp.l0]at h
 | k+1=>by
  have ih0:=jp.mono_l k
  ·intro y0 y1 y2 y3 y4
   unfold jp.l0
   repeat' first | (with_reducible first | apply ih0 | exact LeO.refl _ | exact LeO.none _ | refine LeO.ite ?_ ?_ | refine LeO.bind ?_ (fun _=>?_)) | (first | apply ih0 | exact LeO.none _ | refine LeO.ite ?_ ?_ | refine LeO.bind ?_ (fun _=>?_))
theorem jp.mono :∀ a0 a1 k,LeO (jp.f k a0 a1) (jp.f (k+1) a0 a1):=by
 intro a0 a1 k
 have ih0:=jp.mono_l k
 unfold jp.f
 repeat' first | (with_reducible first | apply ih0 | exact LeO.refl _ | exact LeO.none _ | refine LeO.ite ?_ ?_ | refine LeO.bind ?_ (fun _=>?_)) | (first | apply ih0 | exact LeO.none _ | refine LeO.ite ?_ ?_ | refine LeO.bind ?_ (fun _=>?_))
theorem jp.calls (k:Nat) (a0:Int) (a1:Int) (r:Int) (w:World) (h:jp.f k a0 a1=some r):
  Calls Try.prog 169 #[.int .i64 a0,.int .i64 a1] w fun e w'=>e=.returned (.int .i64 r)∧Drawn0 w w':=by
 have H:(jp.l0 k a0 a1 1 (wrap64 (a1 - 2)) 0)=some r:=h
 clear h;have H':=am H;clear H
 go_enter Try.func169,Try.ntmps169
 go_wp2
 go_loopg [5,8] k (fun kq v5 v8 w'=>∃ (x5_1:Int) (x8_1:Int),v5=.int .i64 x5_1∧v8=.int .i64 x8_1∧qa (jp.l0 kq a0 a1 x5_1 (wrap64 (a1 - 2)) x8_1=some r)∧qa (kq≤k)∧Drawn0 w w')
 case atStart=>exact⟨(1),(0),fr,fr,H',⟨Nat.le_refl _⟩,df⟩
 case round=>
  clear H';try clear c1;try clear p2
  obtain⟨x5_1,x8_1,rfl,rfl,HA,HK1,⟨m1,rfl⟩⟩:=hrel
  cases gk with
  | zero=>exact absurd HA.out (by simp[jp.l0])
  | succ k1=>
   have H:=HA.out;clear HA
   simp only[jp.l0]at H
   by_cases c3:x8_1 < (wrap64 (a1 - 2))
   ·rw[if_pos c3]at H
    have c3b0:=decide_eq_true c3;clear c3;replace H:=ifm H;obtain⟨c4,H⟩:=H;have c4b0:=beq_eq_false_iff_ne.mpr c4;have c4b1:=bne_iff_ne.mpr c4;have H':=am H;clear H;go_wp2
    go_roundg k1
    case measure=>have:=HK1.out;omega
    case rel=>exact⟨(Int.tmod (wrap64 (x5_1*a0)) a1),(wrap64 (x8_1+1)),fr,fr,H',⟨by have:=HK1.out;omega⟩,df⟩
   ·rw[if_neg c3]at H
    have c3b0:=decide_eq_false c3;clear c3;obtain rfl:=Option.some.inj H;go_wp2;go_ret
    exact⟨fr,df⟩
end Go.Proofs.Ytmgbpmihbljngaa.PA
