-- Written by xprint.py, a program of this claim's own (over the kit's print.py)
import Derived.Test.YtmgbpmihbljngaaPAx18
namespace Go.Proofs.Ytmgbpmihbljngaa.PA
set_option maxHeartbeats 8000000
set_option maxRecDepth 100000
open Go.RowKit Go.Proofs.YtmgbpmihbljngaaW.PrintWords Go.Proofs.YtmgbpmihbljngaaW.PrintLast Go.Proofs.YtmgbpmihbljngaaW.PrintMore
attribute [local go_sem] Qs Qr Qx Qw Qf Qe Qq Qp
set_option linter.unusedVariables false
set_option linter.unusedSimpArgs false
def zv.l0 :Nat→List Int→List (S41)→Int→Int→Int→Int→Int→Option (List Int)
 | 0,_,_,_,_,_,_,_=>none
 | k+1,x3,x7,x8,x9,x405000,x405001,x405002=>if x9 < x8 then (if 0≤x9 then (if x9 < (x7.length:Int) then ((z8.f k x405000 ((zg x7 x9).f0)).bind fun t413=>((z8.f k x405001 ((zg x7 x9).f1)).bind fun t414=>((z8.f k x405002 ((zg x7 x9).f2)).bind fun t415=>(if x3.length < 17592186044416 then (zv.l0 k (x3++[wrap64 ((wrap64 (t413*t414))*t415)]) x7 x8 (wrap64 (x9+1)) x405000 x405001 x405002) else (none))))) else (none)) else (none)) else (some x3)
def zv.f (k:Nat) (a0_0:Int) (a0_1:Int) (a0_2:Int):Option (List Int):=(q9.f k).bind fun t408=>(zv.l0 k (([]:List Int)) t408 (t408.length:Int) 0 a0_0 a0_1 a0_2)
theorem zv.mono_l :∀ k,(∀ y0 y1 y2 y3 y4 y5 y6,LeO (zv.l0 k y0 y1 y2 y3 y4 y5 y6) (zv.l0 (k+1) y0 y1 y2 y3 y4 y5 y6))
 | 0=>fun _ _ _ _ _ _ _ r h=>by simp[zv.l0]at h
 | k+1=>by
  have ih0:=zv.mono_l k
  ·intro y0 y1 y2 y3 y4 y5 y6
   unfold zv.l0
   repeat' first | (with_reducible first | apply ih0 | apply q9.mono | apply z8.mono | exact LeO.refl _ | exact LeO.none _ | refine LeO.ite ?_ ?_ | refine LeO.bind ?_ (fun _=>?_)) | (first | apply ih0 | apply q9.mono | apply z8.mono | exact LeO.none _ | refine LeO.ite ?_ ?_ | refine LeO.bind ?_ (fun _=>?_))
theorem zv.mono :∀ a0 a1 a2 k,LeO (zv.f k a0 a1 a2) (zv.f (k+1) a0 a1 a2):=by
 intro a0 a1 a2 k
 have ih0:=zv.mono_l k
 unfold zv.f
 repeat' first | (with_reducible first | apply ih0 | apply q9.mono | apply z8.mono | exact LeO.refl _ | exact LeO.none _ | refine LeO.ite ?_ ?_ | refine LeO.bind ?_ (fun _=>?_)) | (first | apply ih0 | apply q9.mono | apply z8.mono | exact LeO.none _ | refine LeO.ite ?_ ?_ | refine LeO.bind ?_ (fun _=>?_))
def zv.T5 :Bool×List (List Nat×List Nat):=(true,[([],[]),([],[]),([1],[1]),([2],[2]),([],[]),([4],[4]),([3,5],[3,5]),([],[]),([7],[7]),([8],[8]),([],[]),([10],[10]),([9,11,6],[9,11]),([6,12],[6,12]),([],[]),([14],[14]),([15],[15]),([],[]),([17],[17]),([16,18,12],[16,18]),([13,19],[13,19]),([20],[20]),([0,21,19],[0,21]),([22,22,0,1,2,3,4,5,6,7,8,9,10,11,12,13,14,15,16,17,18,19,20,21,22],[0,22])])
def zv.B5 :List Nat:=[0,0,2,6,0,16,62,0,128,384,0,1024,4094,8190,0,16384,49152,0,131072,516094,1048574,2097150,4194303,8388607]
theorem zv.tab5 :rtab .any (Z0 Try.f82 5)=zv.T5:=by kernel_rfl
theorem zv.bits5 :Qj zv.T5.2 zv.B5=true:=by kernel_rfl
theorem zv.calls (k:Nat) (a0_0:Int) (a0_1:Int) (a0_2:Int) (r:List Int) (w:World) (h:zv.f k a0_0 a0_1 a0_2=some r):
  Calls Try.prog 82 #[.agg #[.int .i64 a0_0,.int .i64 a0_1,.int .i64 a0_2]] w fun e w'=>∃ v0_:Value,e=.returned (v0_)∧Kd.R (Kd.int .i64) 3 w' w.heap.size (fun _=>True) v0_ r∧Below w.heap.size w w':=by
 have hu43:=Try.underlying43
 have hu41:=Try.underlying41
 have HB:=am (Below.refl w.heap.size w)
 have H:((q9.f k).bind fun t408=>(zv.l0 k (([]:List Int)) t408 (t408.length:Int) 0 a0_0 a0_1 a0_2))=some r:=h
 clear h
 generalize hy405:(([]:List Int))=y405 at H
 have Ny405:=am hy405.symm;clear hy405;replace H:=bs H;obtain⟨t408,A2,H⟩:=H;have H':=am H;clear H
 go_enter Try.func82,Try.ntmps82
 go_wp2_with (first | ((with_reducible refine zb (N:=1) rfl ?_);refine xe_ 1 43 #[.int .i64 a0_0,.int .i64 a0_1,.int .i64 a0_2] ?_;intro gb404 hg w3 hbox hb;have BK404:=am (hbox);have GW404:=am ((by rw[hg];exact(bz HB):w.heap.size≤gb404));have GE404:=am ((by rw[hg];exact(bz HB):w.heap.size≤gb404));replace HB:=bq HB hb;clear hb hbox hg) | ((with_reducible refine zb (N:=6) rfl ?_);refine li 3 ([]:List Int) ?_;intro v406 w4 ho5 hb;(first | rw[← Ny405.out]at ho5 | (simp only[Int.reduceToNat]at ho5;rw[← Ny405.out]at ho5));have HO407:=am (Kd.R_lower ho5 (zo (bx_ HB)));replace BK404:=am (qv (g:=gb404) (o:=.cells #[.int .i64 a0_0,.int .i64 a0_1,.int .i64 a0_2] 43 (0,0)) (pk_ BK404) hb);replace HB:=am (jg (bx_ HB) hb);clear hb ho5) | ((with_reducible refine qt (f:=114) rfl ?_);refine gl 7 Try.func114 #[] ?_;(with_reducible refine(q9.calls k  t408 _ A2.out).mono ?_);rintro e w6 ⟨v409,rfl,ho0,hb⟩;refine⟨_,rfl,?_⟩;replace HO407:=am (Kd.R_below (wR HO407) hb);have HO410:=am (Kd.R_lower ho0 (zo (bx_ HB)));replace BK404:=am (qv (g:=gb404) (o:=.cells #[.int .i64 a0_0,.int .i64 a0_1,.int .i64 a0_2] 43 (0,0)) (pk_ BK404) hb);replace HB:=am (jg (bx_ HB) hb);(try clear hb);(try clear ho0);obtain⟨Ao7,co7,eo7⟩:=Kd.R_slice HO410.out;subst eo7))
 go_loopg [3,9] k (fun kq v3 v9 w'=>∃ (x3_1:List Int) (x9_1:Int),v9=.int .i64 x9_1∧qf (zv.l0 kq x3_1 t408 (t408.length:Int) x9_1 a0_0 a0_1 a0_2=some r)∧qf (kq≤k)∧qf (Kd.R (Kd.int .i64) 3 w' w.heap.size (fun _=>True) v3 x3_1)∧qf (Kd.R k41 41 w' w.heap.size (fun _=>True) (.slice Ao7 t408.length co7) t408)∧qf (w'.heap[gb404]? =some (.cells #[.int .i64 a0_0,.int .i64 a0_1,.int .i64 a0_2] 43 (0,0)))∧qf (Below w.heap.size w w'))
 case atStart=>exact⟨(y405),(0),fr,H',⟨Nat.le_refl _⟩,⟨wR HO407⟩,⟨wR HO410⟩,⟨by (with_reducible repeat (first | refine qx ?_ _ | refine qw ?_ | refine qq ?_ _));exact BK404.out⟩,⟨bx_ HB⟩⟩
 case round=>
  clear H';try clear c1;try clear p2
  obtain⟨x3_1,x9_1,rfl,HA,HK1,HO_3,HO_7,BK404,HB⟩:=hrel
  cases gk with
  | zero=>exact absurd HA.out (by simp[zv.l0])
  | succ k1=>
   have H:=HA.out;clear HA
   simp only[zv.l0]at H
   by_cases c8:x9_1 < (t408.length:Int)
   ·rw[if_pos c8]at H
    have c8b0:=decide_eq_true c8;clear c8;replace H:=ifn H;obtain⟨c9,H⟩:=H;have c9b0:=decide_eq_true c9;clear c9;replace H:=ifn H;obtain⟨c10,H⟩:=H;have c10b0:=decide_eq_true c10;clear c10;replace H:=bs H;obtain⟨t413,A11,H⟩:=H
    replace H:=bs H;obtain⟨t414,A12,H⟩:=H;replace H:=bs H;obtain⟨t415,A13,H⟩:=H;replace H:=ifn H;obtain⟨c14,H⟩:=H;have LMc14:=am c14;clear c14
    generalize hy416:(x3_1++[wrap64 ((wrap64 (t413*t414))*t415)]:List Int)=y416 at H
    have Ny416:=am hy416.symm;clear hy416;have H':=am H;clear H
    have p411:0≤(x9_1:Int):=od
    have q411:x9_1 < (t408.length:Int):=od
    obtain⟨ad411,e411,hx411_0,hx411_1,hx411_2⟩:=qh2 (Kd.R_reads' HO_7.out).2.2 x9_1 p411 q411
    cases e411;replace p411:=eq_true p411;replace q411:=eq_true q411
    try go_wp2_with (first | ((with_reducible refine zb (N:=5) rfl ?_);refine xe_ 5 41 #[.int .i64 0,.int .i64 0,.int .i64 0] ?_;intro gb412 hg w15 hbox hb;replace HO_3:=am (Kd.R_below (wR HO_3) hb);replace HO_7:=am (Kd.R_below (Kd.R_elderB (wR HO_7) gb412 (Nat.le_of_eq hg.symm)) hb);have BK412:=am (hbox);have GW412:=am ((by rw[hg];exact(zo (bx_ HB)):w.heap.size≤gb412));have GE412:=am ((by rw[hg];exact(zo (bx_ HB)):w.heap.size≤gb412));replace HB:=am (jg (bx_ HB) hb);have NB404_412:=am ((by rw[hg];exact Nat.ne_of_lt (jy (g:=gb404) (o:=.cells #[.int .i64 a0_0,.int .i64 a0_1,.int .i64 a0_2] 43 (0,0)) (pk_ BK404)):gb404≠gb412));have NB412_404:=am ((by rw[hg];exact Nat.ne_of_gt (jy (g:=gb404) (o:=.cells #[.int .i64 a0_0,.int .i64 a0_1,.int .i64 a0_2] 43 (0,0)) (pk_ BK404)):gb412≠gb404));replace BK404:=am (qv (g:=gb404) (o:=.cells #[.int .i64 a0_0,.int .i64 a0_1,.int .i64 a0_2] 43 (0,0)) (pk_ BK404) hb);clear hb hbox hg;have hnb16:=NB412_404.out;have hnc16:=NB404_412.out;have hcz17_0:w15.cell? ⟨gb412,0,none⟩=some (.int .i64 0):=(qe BK412.out 0).trans rfl;have hcz17_1:w15.cell? ⟨gb412,1,none⟩=some (.int .i64 0):=(qe BK412.out 1).trans rfl;have hcz17_2:w15.cell? ⟨gb412,2,none⟩=some (.int .i64 0):=(qe BK412.out 2).trans rfl;have hfz17_0:=ql BK412.out 0;have hfz17_1:=ql BK412.out 1;have hfz17_2:=ql BK412.out 2))
    have n0_:qf (Kd.R (Kd.int .i64) 3 (((w15.setCell ⟨gb412,0,none⟩ (.int .i64 ((zg t408 x9_1).f0))).setCell ⟨gb412,1,none⟩ (.int .i64 ((zg t408 x9_1).f1))).setCell ⟨gb412,2,none⟩ (.int .i64 ((zg t408 x9_1).f2))) w.heap.size (fun _=>True) u3 x3_1):=⟨by (with_reducible repeat (first | apply Kd.R_alloc | apply Kd.R_drewN | apply Kd.R_drew));exact Kd.R_mono (Kd.R_far (p:=⟨gb412,2,none⟩) (Kd.R_far (p:=⟨gb412,1,none⟩) (Kd.R_far (p:=⟨gb412,0,none⟩) (Kd.R_types HO_3.out BK412.out (by decide)) (fun _ hk=>hk.2) (.int .i64 ((zg t408 x9_1).f0))) (fun _ hk=>hk.2) (.int .i64 ((zg t408 x9_1).f1))) (fun _ hk=>hk.2) (.int .i64 ((zg t408 x9_1).f2))) (fun _ hk=>trivial)⟩
    have n1_:qf (Kd.R k41 41 (((w15.setCell ⟨gb412,0,none⟩ (.int .i64 ((zg t408 x9_1).f0))).setCell ⟨gb412,1,none⟩ (.int .i64 ((zg t408 x9_1).f1))).setCell ⟨gb412,2,none⟩ (.int .i64 ((zg t408 x9_1).f2))) w.heap.size (fun k_=>k_≠gb412) (.slice (some ad411) t408.length co7) t408):=⟨by (with_reducible repeat (first | apply Kd.R_alloc | apply Kd.R_drewN | apply Kd.R_drew));exact Kd.R_mono (Kd.R_far (p:=⟨gb412,2,none⟩) (Kd.R_far (p:=⟨gb412,1,none⟩) (Kd.R_far (p:=⟨gb412,0,none⟩) (Kd.R_mono HO_7.out (fun k_ hk=>(⟨hk,hk.2⟩:_∧k_≠gb412))) (fun _ hk=>hk.2) (.int .i64 ((zg t408 x9_1).f0))) (fun _ hk=>hk.2) (.int .i64 ((zg t408 x9_1).f1))) (fun _ hk=>hk.2) (.int .i64 ((zg t408 x9_1).f2))) (fun _ hk=>hk.1.2)⟩
    have n2_:qf ((((w15.setCell ⟨gb412,0,none⟩ (.int .i64 ((zg t408 x9_1).f0))).setCell ⟨gb412,1,none⟩ (.int .i64 ((zg t408 x9_1).f1))).setCell ⟨gb412,2,none⟩ (.int .i64 ((zg t408 x9_1).f2))).heap[gb404]? =some (.cells #[.int .i64 a0_0,.int .i64 a0_1,.int .i64 a0_2] 43 (0,0))):=⟨by (with_reducible repeat (first | refine qx ?_ _ | refine qw ?_ | refine qq ?_ _));refine Qk ?_ NB404_412.out _;(with_reducible repeat (first | refine qx ?_ _ | refine qw ?_ | refine qq ?_ _));refine Qk ?_ NB404_412.out _;(with_reducible repeat (first | refine qx ?_ _ | refine qw ?_ | refine qq ?_ _));refine Qk ?_ NB404_412.out _;(with_reducible repeat (first | refine qx ?_ _ | refine qw ?_ | refine qq ?_ _));exact BK404.out⟩
    have n3_:qf ((((w15.setCell ⟨gb412,0,none⟩ (.int .i64 ((zg t408 x9_1).f0))).setCell ⟨gb412,1,none⟩ (.int .i64 ((zg t408 x9_1).f1))).setCell ⟨gb412,2,none⟩ (.int .i64 ((zg t408 x9_1).f2))).heap[gb412]? =some (.cells #[.int .i64 ((zg t408 x9_1).f0),.int .i64 ((zg t408 x9_1).f1),.int .i64 ((zg t408 x9_1).f2)] 41 (0,0))):=⟨by (with_reducible repeat (first | refine qx ?_ _ | refine qw ?_ | refine qq ?_ _));refine Qu (cs:=#[.int .i64 ((zg t408 x9_1).f0),.int .i64 ((zg t408 x9_1).f1),.int .i64 0]) ?_ 2 _ rfl;(with_reducible repeat (first | refine qx ?_ _ | refine qw ?_ | refine qq ?_ _));refine Qu (cs:=#[.int .i64 ((zg t408 x9_1).f0),.int .i64 0,.int .i64 0]) ?_ 1 _ rfl;(with_reducible repeat (first | refine qx ?_ _ | refine qw ?_ | refine qq ?_ _));refine Qu (cs:=#[.int .i64 0,.int .i64 0,.int .i64 0]) ?_ 0 _ rfl;(with_reducible repeat (first | refine qx ?_ _ | refine qw ?_ | refine qq ?_ _));exact BK412.out⟩
    have n4_:qf (Below w.heap.size w (((w15.setCell ⟨gb412,0,none⟩ (.int .i64 ((zg t408 x9_1).f0))).setCell ⟨gb412,1,none⟩ (.int .i64 ((zg t408 x9_1).f1))).setCell ⟨gb412,2,none⟩ (.int .i64 ((zg t408 x9_1).f2)))):=⟨bx_ HB⟩
    (try clear HO_3)
    (try clear HO_7)
    (try clear BK404)
    (try clear BK412)
    (try clear HB)
    generalize (((w15.setCell ⟨gb412,0,none⟩ (.int .i64 ((zg t408 x9_1).f0))).setCell ⟨gb412,1,none⟩ (.int .i64 ((zg t408 x9_1).f1))).setCell ⟨gb412,2,none⟩ (.int .i64 ((zg t408 x9_1).f2)))=w18 at n0_ n1_ n2_ n3_ n4_ ⊢
    have HO_3:=n0_
    have HO_7:=n1_
    have BK404:=n2_
    have BK412:=n3_
    have HB:=n4_
    clear n0_ n1_ n2_ n3_ n4_
    replace HO_3:=am (Kd.R_drew HO_3.out)
    replace HO_7:=am (Kd.R_drew HO_7.out)
    replace BK404:=am (qw BK404.out)
    replace BK412:=am (qw BK412.out)
    replace HB:=am (Qg HB.out)
    refine st 24 (fun w'=>w'.cell? ⟨gb404,0,none⟩=some (.int .i64 a0_0)∧w'.cell? ⟨gb404,1,none⟩=some (.int .i64 a0_1)∧w'.cell? ⟨gb404,2,none⟩=some (.int .i64 a0_2)∧w'.cell? ⟨gb412,0,none⟩=some (.int .i64 ((zg t408 x9_1).f0))∧w'.cell? ⟨gb412,1,none⟩=some (.int .i64 ((zg t408 x9_1).f1))∧w'.cell? ⟨gb412,2,none⟩=some (.int .i64 ((zg t408 x9_1).f2))) [] zv.tab5 zv.bits5 (⟨(qe BK404.out 0).trans rfl,(qe BK404.out 1).trans rfl,(qe BK404.out 2).trans rfl,(qe BK412.out 0).trans rfl,(qe BK412.out 1).trans rfl,(qe BK412.out 2).trans rfl⟩) fun hHeld HT_ HW_=>?_
    generalize w18.drew=w19 at HO_3 HO_7 BK404 BK412 HB hHeld ⊢
    refine pz 0 13 HT_ ?_;refine pz 1 14 HT_ ?_;refine pz 2 15 HT_ ?_;refine pz 4 17 HT_ ?_;refine pz 7 20 HT_ ?_;refine pz 8 21 HT_ ?_;refine pz 10 23 HT_ ?_;refine pz 14 27 HT_ ?_;refine pz 15 28 HT_ ?_;refine pz 17 30 HT_ ?_;refine tk 3 16 HT_ HW_ hHeld ?_
    refine tk 5 18 HT_ HW_ hHeld ?_;refine tk 9 22 HT_ HW_ hHeld ?_;refine tk 11 24 HT_ HW_ hHeld ?_;refine tk 16 29 HT_ HW_ hHeld ?_;refine tk 18 31 HT_ HW_ hHeld ?_
    refine on 6 (some 19) HT_ fun K hK=>?_
    refine gs_ Try.func102 #[.int .i64 a0_0,.int .i64 ((zg t408 x9_1).f0)] ?_
    with_reducible refine(z8.calls k1 a0_0 ((zg t408 x9_1).f0) t413 _ A11.out).mono ?_
    rintro e w' ⟨rfl,⟨nd,rfl⟩⟩
    refine⟨_,rfl,?_⟩
    refine hK.out _ _ ⟨(qe BK404.out 0).trans rfl,(qe BK404.out 1).trans rfl,(qe BK404.out 2).trans rfl,(qe BK412.out 0).trans rfl,(qe BK412.out 1).trans rfl,(qe BK412.out 2).trans rfl⟩ fun hHeld=>nz ?_
    clear hK K
    refine on 12 (some 25) HT_ fun K hK=>?_
    refine gs_ Try.func102 #[.int .i64 a0_1,.int .i64 ((zg t408 x9_1).f1)] ?_
    with_reducible refine(z8.calls k1 a0_1 ((zg t408 x9_1).f1) t414 _ A12.out).mono ?_
    rintro e w' ⟨rfl,⟨nd,rfl⟩⟩
    refine⟨_,rfl,?_⟩
    refine hK.out _ _ ⟨(qe BK404.out 0).trans rfl,(qe BK404.out 1).trans rfl,(qe BK404.out 2).trans rfl,(qe BK412.out 0).trans rfl,(qe BK412.out 1).trans rfl,(qe BK412.out 2).trans rfl⟩ fun hHeld=>nz ?_
    clear hK K;refine pz 13 26 HT_ ?_
    refine on 19 (some 32) HT_ fun K hK=>?_
    refine gs_ Try.func102 #[.int .i64 a0_2,.int .i64 ((zg t408 x9_1).f2)] ?_
    with_reducible refine(z8.calls k1 a0_2 ((zg t408 x9_1).f2) t415 _ A13.out).mono ?_
    rintro e w' ⟨rfl,⟨nd,rfl⟩⟩
    refine⟨_,rfl,?_⟩
    refine hK.out _ _ ⟨(qe BK404.out 0).trans rfl,(qe BK404.out 1).trans rfl,(qe BK404.out 2).trans rfl,(qe BK412.out 0).trans rfl,(qe BK412.out 1).trans rfl,(qe BK412.out 2).trans rfl⟩ fun hHeld=>nz ?_
    clear hK K;refine pz 20 33 HT_ ?_
    refine on 21 (some 34) HT_ fun K hK=>?_
    refine qbm (w1:=?_) (v:=?_) (by rfl) rfl ?_ ?_
    rotate_left 2
    ·go_simp
     constructor
     ·rfl
     ·rfl
    refine hK.out _ _ ⟨(qe (qq BK404.out _) 0).trans rfl,(qe (qq BK404.out _) 1).trans rfl,(qe (qq BK404.out _) 2).trans rfl,(qe (qq BK412.out _) 0).trans rfl,(qe (qq BK412.out _) 1).trans rfl,(qe (qq BK412.out _) 2).trans rfl⟩ fun hHeld=>nz ?_
    clear hK K
    refine on 22 (some 35) HT_ fun K hK=>?_
    refine Kd.R_append_step (Kd.int .i64) (w0:=w) w.heap.size (by rfl) (.tmp 13) (.tmp 34) 23 3 (.int .i64 0) 8 rfl Try.underlying23 Jm rfl (by decide) (by omega) u3 x3_1 (wrap64 ((wrap64 (t413*t414))*t415)) [.int .i64 (wrap64 ((wrap64 (t413*t414))*t415))] (fun _=>True) (fun _=>False) rfl rfl ?aP (fun _ hk=>hk.elim) ?aF ?aO ?aB ?aS ?aL ?_
    (case aP=>exact rfl)
    (case aB=>exact(bx_ HB))
    (case aF=>exact(fun _ _=>trivial))
    (case aO=>exact(wR HO_3))
    (case aS=>exact(zo (bx_ HB)))
    (case aL=>have:=LMc14.out;omega)
    intro v417 w20 ho hb hg hat
    rw[← Ny416.out]at ho
    replace HO_7:=am (Kd.R_over' (wR HO_7) (Kd.R_typed (wR HO_3)) (by decide) hg)
    replace BK404:=am (Q2 (g:=gb404) (o:=.cells #[.int .i64 a0_0,.int .i64 a0_1,.int .i64 a0_2] 43 (0,0)) (pk_ BK404) hg (Kd.R_ne HO_3.out BK404.out (by decide)))
    replace BK412:=am (Q2 (g:=gb412) (o:=.cells #[.int .i64 ((zg t408 x9_1).f0),.int .i64 ((zg t408 x9_1).f1),.int .i64 ((zg t408 x9_1).f2)] 41 (0,0)) (pk_ BK412) hg (Kd.R_ne HO_3.out BK412.out (by decide)))
    replace HB:=am (hb)
    have HO418:=am (ho)
    clear HO_3;clear ho hb hg hat
    refine hK.out _ _ ⟨(qe BK404.out 0).trans rfl,(qe BK404.out 1).trans rfl,(qe BK404.out 2).trans rfl,(qe BK412.out 0).trans rfl,(qe BK412.out 1).trans rfl,(qe BK412.out 2).trans rfl⟩ fun hHeld=>nz ?_
    clear hK K;refine pz 23 3 HT_ ?_
    refine Q3 (Qa HT_.out (by kernel_rfl)) ?_
    try go_wp2
    go_roundg k1
    case measure=>have:=HK1.out;omega
    case rel=>exact⟨(y416),(wrap64 (x9_1+1)),fr,H',⟨by have:=HK1.out;omega⟩,⟨wR HO418⟩,⟨Kd.R_below (Kd.R_mono HO_7.out (fun _ hk=>trivial)) gs⟩,⟨by (with_reducible repeat (first | refine qx ?_ _ | refine qw ?_ | refine qq ?_ _));exact BK404.out⟩,⟨bx_ HB⟩⟩
   ·rw[if_neg c8]at H
    have c8b0:=decide_eq_false c8;clear c8;obtain rfl:=Option.some.inj H;go_wp2;go_ret
    exact⟨_,fq,wR HO_3,bx_ HB⟩
def jo.l0 :Nat→Int→List (List Int)→List (S43)→Int→Int→Option ((List (List Int)))
 | 0,_,_,_,_,_=>none
 | k+1,x0,x5,x9,x10,x11=>if x11 < x10 then (if 0≤x11 then (if x11 < (x9.length:Int) then ((zv.f k ((qd x9 x11).f0.f0) ((qd x9 x11).f0.f1) ((qd x9 x11).f0.f2)).bind fun t424=>(if x5.length < 5864062014805 then (jo.l0 k x0 (x5++[t424]) x9 x10 (wrap64 (x11+1))) else (none))) else (none)) else (none)) else ((qh.f k x0 x5 10).bind fun t430=>(some t430))
def jo.f (k:Nat) (a0:Int) (l1:List (S43)):Option ((List (List Int))):=jo.l0 k a0 (([]:List (List Int))) l1 (l1.length:Int) 0
theorem jo.mono_l :∀ k,(∀ y0 y1 y2 y3 y4,LeO (jo.l0 k y0 y1 y2 y3 y4) (jo.l0 (k+1) y0 y1 y2 y3 y4))
 | 0=>fun _ _ _ _ _ r h=>by simp[jo.l0]at h
 | k+1=>by
  have ih0:=jo.mono_l k
  ·intro y0 y1 y2 y3 y4
   unfold jo.l0
   repeat' first | (with_reducible first | apply ih0 | apply zv.mono | apply qh.mono | exact LeO.refl _ | exact LeO.none _ | refine LeO.ite ?_ ?_ | refine LeO.bind ?_ (fun _=>?_)) | (first | apply ih0 | apply zv.mono | apply qh.mono | exact LeO.none _ | refine LeO.ite ?_ ?_ | refine LeO.bind ?_ (fun _=>?_))
theorem jo.mono :∀ a0 a1 k,LeO (jo.f k a0 a1) (jo.f (k+1) a0 a1):=by
 intro a0 a1 k
 have ih0:=jo.mono_l k
 unfold jo.f
 repeat' first | (with_reducible first | apply ih0 | apply zv.mono | apply qh.mono | exact LeO.refl _ | exact LeO.none _ | refine LeO.ite ?_ ?_ | refine LeO.bind ?_ (fun _=>?_)) | (first | apply ih0 | apply zv.mono | apply qh.mono | exact LeO.none _ | refine LeO.ite ?_ ?_ | refine LeO.bind ?_ (fun _=>?_))
theorem jo.calls (k:Nat) (a0:Int) (A1:Option Addr) (c1:Nat) (l1:List (S43)) (r:List (List Int)) (w:World) (hr1:Kd.C k43 w A1 l1.length l1) (hc1:l1.length≤c1) (h:jo.f k a0 l1=some r):
  Calls Try.prog 67 #[.int .i64 a0,.slice A1 l1.length c1] w fun e w'=>∃ v0_:Value,e=.returned (v0_)∧Kd.S (Kd.slice 3 (Kd.int .i64)) 23 w' w.heap.size (fun _=>True) v0_ r∧Below w.heap.size w w':=by
 have hu43:=Try.underlying43
 have HR1:=am hr1
 have HC1:=am hc1
 clear hr1 hc1
 have HB:=am (Below.refl w.heap.size w)
 have H:(jo.l0 k a0 (([]:List (List Int))) l1 (l1.length:Int) 0)=some r:=h
 clear h
 generalize hy419:(([]:List (List Int)))=y419 at H
 have Ny419:=am hy419.symm;clear hy419;have H':=am H;clear H
 go_enter Try.func67,Try.ntmps67
 go_wp2_with (first | ((with_reducible refine zb (N:=8) rfl ?_);refine Kd.S_lit (Kd.slice 3 (Kd.int .i64)) _ 23 ?hg (N:=8) ?hd (xs:=([]:List (List Int))) (inner:=[]) (ok:=fun _=>True) (okp:=fun _=>True) ?hr ?hp (fun _ hk=>hk) trivial (Below.refl _ _) (Nat.le_refl _) (by simp) ?_;(case hd=>rfl);(case hg=>rfl);(case hr=>first | (go_simp;done) | (go_simp;rfl));(case hp=>exact(Reps.none _ _));intro v420 w3 ho4 hb hg_ hnew_;clear hg_ hnew_;(first | rw[← Ny419.out]at ho4 | (simp only[Int.reduceToNat]at ho4;rw[← Ny419.out]at ho4));have HO421:=am (Kd.S_lower ho4 (bz HB));replace HB:=bq HB hb;clear hb ho4))
 go_loopg [5,11] k (fun kq v5 v11 w'=>∃ (x5_1:List (List Int)) (x11_1:Int),v11=.int .i64 x11_1∧qf (jo.l0 kq a0 x5_1 l1 (l1.length:Int) x11_1=some r)∧qf (kq≤k)∧qf (Kd.S (Kd.slice 3 (Kd.int .i64)) 23 w' w.heap.size (fun _=>True) v5 x5_1)∧qf (Below w.heap.size w w'))
 case atStart=>exact⟨(y419),(0),fr,H',⟨Nat.le_refl _⟩,⟨wS HO421⟩,⟨bw HB⟩⟩
 case round=>
  clear H';try clear c1;try clear p2
  obtain⟨x5_1,x11_1,rfl,HA,HK1,HO_5,HB⟩:=hrel
  cases gk with
  | zero=>exact absurd HA.out (by simp[jo.l0])
  | succ k1=>
   have H:=HA.out;clear HA
   simp only[jo.l0]at H
   by_cases c5:x11_1 < (l1.length:Int)
   ·rw[if_pos c5]at H
    have c5b0:=decide_eq_true c5;clear c5;replace H:=ifn H;obtain⟨c6,H⟩:=H;have c6b0:=decide_eq_true c6;clear c6;replace H:=ifn H;obtain⟨c7,H⟩:=H;have c7b0:=decide_eq_true c7;clear c7;replace H:=bs H;obtain⟨t424,A8,H⟩:=H
    replace H:=ifn H;obtain⟨c9,H⟩:=H;have LMc9:=am c9;clear c9
    generalize hy427:(x5_1++[t424]:List (List Int))=y427 at H
    have Ny427:=am hy427.symm;clear hy427;have H':=am H;clear H
    have p422:0≤(x11_1:Int):=od
    have q422:x11_1 < (l1.length:Int):=od
    obtain⟨ad422,e422,hx422_0,hx422_1,hx422_2⟩:=Qo HR1.out x11_1 p422 q422
    cases e422
    replace hx422_0:=wcl HB hx422_0
    replace hx422_1:=wcl HB hx422_1
    replace hx422_2:=wcl HB hx422_2
    replace p422:=eq_true p422;replace q422:=eq_true q422
    go_wp2_with (first | ((with_reducible refine zb (N:=7) rfl ?_);refine xe_ 7 43 #[.int .i64 0,.int .i64 0,.int .i64 0] ?_;intro gb423 hg w10 hbox hb;replace HO_5:=am (Kd.S_below (wS HO_5) hb);have BK423:=am (hbox);have GW423:=am ((by rw[hg];exact(bz HB):w.heap.size≤gb423));have GE423:=am ((by rw[hg];exact(bz HB):w.heap.size≤gb423));replace HB:=bq HB hb;clear hb hbox hg;have hcz11_0:w10.cell? ⟨gb423,0,none⟩=some (.int .i64 0):=(qe BK423.out 0).trans rfl;have hcz11_1:w10.cell? ⟨gb423,1,none⟩=some (.int .i64 0):=(qe BK423.out 1).trans rfl;have hcz11_2:w10.cell? ⟨gb423,2,none⟩=some (.int .i64 0):=(qe BK423.out 2).trans rfl;have hfz11_0:=ql BK423.out 0;have hfz11_1:=ql BK423.out 1;have hfz11_2:=ql BK423.out 2) | ((with_reducible refine qt (f:=82) rfl ?_);refine gl 17 Try.func82 #[.agg #[.int .i64 ((qd l1 x11_1).f0.f0),.int .i64 ((qd l1 x11_1).f0.f1),.int .i64 ((qd l1 x11_1).f0.f2)]] ?_;(with_reducible refine(zv.calls k1 ((qd l1 x11_1).f0.f0) ((qd l1 x11_1).f0.f1) ((qd l1 x11_1).f0.f2) t424 _ A8.out).mono ?_);rintro e w12 ⟨v425,rfl,ho0,hb⟩;refine⟨_,rfl,?_⟩;replace HO_5:=am (Kd.S_elder' (by (with_reducible repeat (first | apply Kd.S_alloc | apply Kd.S_drewN | apply Kd.S_drew));exact(Kd.S_mono (Kd.S_far (p:=⟨gb423,2,none⟩) (Kd.S_far (p:=⟨gb423,1,none⟩) (Kd.S_far (p:=⟨gb423,0,none⟩) (Kd.S_types HO_5.out BK423.out (by decide)) (fun _ hk=>hk.2) (.int .i64 ((qd l1 x11_1).f0.f0))) (fun _ hk=>hk.2) (.int .i64 ((qd l1 x11_1).f0.f1))) (fun _ hk=>hk.2) (.int .i64 ((qd l1 x11_1).f0.f2))) (fun _ h_=>h_.1))) (Kd.R_base ho0) hb);have HO426:=am (Kd.R_lower ho0 (zo (bx_ HB)));replace BK423:=am (qv (g:=gb423) (o:=.cells #[.int .i64 ((qd l1 x11_1).f0.f0),.int .i64 ((qd l1 x11_1).f0.f1),.int .i64 ((qd l1 x11_1).f0.f2)] 43 (0,0)) (by (with_reducible repeat (first | refine qx ?_ _ | refine qw ?_ | refine qq ?_ _));refine Qu (cs:=#[.int .i64 ((qd l1 x11_1).f0.f0),.int .i64 ((qd l1 x11_1).f0.f1),.int .i64 0]) ?_ 2 _ rfl;(with_reducible repeat (first | refine qx ?_ _ | refine qw ?_ | refine qq ?_ _));refine Qu (cs:=#[.int .i64 ((qd l1 x11_1).f0.f0),.int .i64 0,.int .i64 0]) ?_ 1 _ rfl;(with_reducible repeat (first | refine qx ?_ _ | refine qw ?_ | refine qq ?_ _));refine Qu (cs:=#[.int .i64 0,.int .i64 0,.int .i64 0]) ?_ 0 _ rfl;(with_reducible repeat (first | refine qx ?_ _ | refine qw ?_ | refine qq ?_ _));exact BK423.out) hb);replace HB:=am (jg (bx_ HB) hb);(try clear hb);(try clear ho0);obtain⟨Ao14,co14,eo14⟩:=Kd.R_slice HO426.out;subst eo14) | ((with_reducible refine jr (b:=.append) (xs:=#[.tmp 15,.tmp 18]) rfl ?_);at_builtin;refine Kd.S_append (Kd.slice 3 (Kd.int .i64)) (w0:=w) w.heap.size rfl (.tmp 15) (.tmp 18) 47 23 (.slice none 0 0) 24 rfl Try.underlying47 Zu rfl (by decide) (by omega) u5 x5_1 t424 [.slice Ao14 t424.length co14] (fun _=>True) (fun k_=>some k_=(.slice Ao14 t424.length co14:Value).ownBlock) rfl rfl ?aP (fun k_ hk_=>((Kd.R_mono (ok':=fun k_=>((fun _=>True)) k_∧some k_≠(u5:Value).ownBlock) (Kd.R_apart' (HO426.out) (Kd.S_typed HO_5.out) (by decide)) (fun k_ hk=>⟨trivial,hk.2⟩))).1 k_ hk_.symm) ?aF ?aO ?aB ?aS ?aL ?_;(case aP=>exact Kd.M_row (Kd.R_mono (Kd.R_tight rfl (Kd.R_mono (ok':=fun k_=>((fun _=>True)) k_∧some k_≠(u5:Value).ownBlock) (Kd.R_apart' (HO426.out) (Kd.S_typed HO_5.out) (by decide)) (fun k_ hk=>⟨trivial,hk.2⟩))) (fun _ h_=>h_)));(case aB=>exact(bx_ HB));(case aF=>exact(fun _ _=>trivial));(case aO=>exact(oS_ HO_5 (fun k_ hk=>⟨trivial,fun e_=>hk.2 e_⟩)));(case aS=>exact(zo (bx_ HB)));(case aL=>have:=LMc9.out;omega);intro v428 w13 ho hb hg hat;rw[← Ny427.out]at ho;replace BK423:=am (Q2 (g:=gb423) (o:=.cells #[.int .i64 ((qd l1 x11_1).f0.f0),.int .i64 ((qd l1 x11_1).f0.f1),.int .i64 ((qd l1 x11_1).f0.f2)] 43 (0,0)) (pk_ BK423) hg (Kd.S_ne HO_5.out BK423.out (by decide)));replace HB:=am (hb);have HO429:=am (ho);clear HO_5 HO426;clear ho hb hg hat))
    go_roundg k1
    case measure=>have:=HK1.out;omega
    case rel=>exact⟨(y427),(wrap64 (x11_1+1)),fr,H',⟨by have:=HK1.out;omega⟩,⟨wS HO429⟩,⟨bx_ HB⟩⟩
   ·rw[if_neg c5]at H
    have c5b0:=decide_eq_false c5;clear c5;replace H:=bs H;obtain⟨t430,A15,H⟩:=H;obtain rfl:=Option.some.inj H
    obtain⟨Ao16,co16,eo16⟩:=Kd.S_slice HO_5.out
    subst eo16
    go_wp2_with (first | ((with_reducible refine qt (f:=112) rfl ?_);refine gl 23 Try.func112 #[.int .i64 a0,.slice Ao16 x5_1.length co16,.int .i64 10] ?_;(with_reducible refine(qh.calls k1 a0 _ _ x5_1 10 t430 _ ?_ ?_ A15.out).mono ?_);exact Kd.C_below (Kd.S_reads' HO_5.out).2.2 gs;exact(Kd.S_reads' HO_5.out).2.1;rintro e w17 ⟨v431,rfl,ho0,hb⟩;refine⟨_,rfl,?_⟩;have HO432:=am (Kd.S_lower (Kd.S_new' ho0 (Kd.S_lt (wS HO_5))) (bz HB));replace HO_5:=eS HO_5 (Kd.S_base ho0) hb;replace HB:=bq HB hb;(try clear hb);(try clear ho0)))
    go_ret
    exact⟨_,fq,Kd.S_below (Kd.S_mono HO432.out (fun _ hk=>trivial)) gs,bw HB⟩
def Q7.f (a0:Int):Option (Bool):=if a0≥0 then (some (decide (a0 < 27))) else (some false)
theorem Q7.calls (a0:Int) (r:Bool) (w:World) (h:Q7.f a0=some r):
  Calls Try.prog 89 #[.int .i64 a0] w fun e w'=>e=.returned (.bool r)∧Drawn0 w w':=by
 have H:(if a0≥0 then (some (decide (a0 < 27))) else (some false))=some r:=h
 clear h
 by_cases c2:a0≥0
 ·rw[if_pos c2]at H
  have c2b0:=decide_eq_true c2;clear c2;obtain rfl:=Option.some.inj H
  go_enter Try.func89,Try.ntmps89
  go_wp2;go_ret
  exact⟨fr,df⟩
 ·rw[if_neg c2]at H
  have c2b0:=decide_eq_false c2;clear c2;obtain rfl:=Option.some.inj H
  go_enter Try.func89,Try.ntmps89
  go_wp2;go_ret
  exact⟨fr,df⟩
def zp.l0 :Nat→List (S43)→Int→Int→Int→Int→Int→Option (Int)
 | 0,_,_,_,_,_,_=>none
 | k+1,x0,x7,x8,x434000,x434001,x434002=>if x8 < x7 then (if 0≤x8 then (if x8 < (x0.length:Int) then (if x434000=((qd x0 x8).f0.f0) then (if x434001=((qd x0 x8).f0.f1) then (if x434002=((qd x0 x8).f0.f2) then (some x8) else (zp.l0 k x0 x7 (wrap64 (x8+1)) x434000 x434001 x434002)) else (zp.l0 k x0 x7 (wrap64 (x8+1)) x434000 x434001 x434002)) else (zp.l0 k x0 x7 (wrap64 (x8+1)) x434000 x434001 x434002)) else (none)) else (none)) else (some (-1))
def zp.f (k:Nat) (l0:List (S43)) (a1_0:Int) (a1_1:Int) (a1_2:Int):Option (Int):=zp.l0 k l0 (l0.length:Int) 0 a1_0 a1_1 a1_2
theorem zp.mono_l :∀ k,(∀ y0 y1 y2 y3 y4 y5,LeO (zp.l0 k y0 y1 y2 y3 y4 y5) (zp.l0 (k+1) y0 y1 y2 y3 y4 y5))
 | 0=>fun _ _ _ _ _ _ r h=>by simp[zp.l0]at h
 | k+1=>by
  have ih0:=zp.mono_l k
  ·intro y0 y1 y2 y3 y4 y5
   unfold zp.l0
   repeat' first | (with_reducible first | apply ih0 | exact LeO.refl _ | exact LeO.none _ | refine LeO.ite ?_ ?_ | refine LeO.bind ?_ (fun _=>?_)) | (first | apply ih0 | exact LeO.none _ | refine LeO.ite ?_ ?_ | refine LeO.bind ?_ (fun _=>?_))
theorem zp.mono :∀ a0 a1 a2 a3 k,LeO (zp.f k a0 a1 a2 a3) (zp.f (k+1) a0 a1 a2 a3):=by
 intro a0 a1 a2 a3 k
 have ih0:=zp.mono_l k
 unfold zp.f
 repeat' first | (with_reducible first | apply ih0 | exact LeO.refl _ | exact LeO.none _ | refine LeO.ite ?_ ?_ | refine LeO.bind ?_ (fun _=>?_)) | (first | apply ih0 | exact LeO.none _ | refine LeO.ite ?_ ?_ | refine LeO.bind ?_ (fun _=>?_))
theorem qig (a x:Int) (d:Nat) (W:World):(Op.equalIn (d+1) 3 (.int .i64 a) (.int .i64 x)).run Try.prog W=.ok (a == x) W:=by
 unfold Op.equalIn
 simp[Sem.run_bind,run_underlying Try.underlying3]
theorem pt_arr (a b c x y z:Int) (W:World):(Op.equalIn 9999 41 (.agg #[.int .i64 a,.int .i64 b,.int .i64 c]) (.agg #[.int .i64 x,.int .i64 y,.int .i64 z])).run Try.prog W=.ok (a == x && (b == y && c == z)) W:=by
 obtain⟨i,hi,_⟩:=Option.map_eq_some_iff.1 Jm
 have p0:∀ a b c:Int,(part 3 #[.int .i64 a,.int .i64 b,.int .i64 c] 0).run Try.prog W=.ok (.int .i64 a) W:=fun a b c=>by kernel_rfl
 have p1:∀ a b c:Int,(part 3 #[.int .i64 a,.int .i64 b,.int .i64 c] 1).run Try.prog W=.ok (.int .i64 b) W:=fun a b c=>by kernel_rfl
 have p2:∀ a b c:Int,(part 3 #[.int .i64 a,.int .i64 b,.int .i64 c] 2).run Try.prog W=.ok (.int .i64 c) W:=fun a b c=>by kernel_rfl
 rw[run_equalIn_array (P:=Try.prog) (w:=W) 9998 _ _ Try.underlying41 hi,show Try.prog.cellsOf 3=1 by kernel_rfl,show List.range 3=[0,1,2] from rfl]
 simp only[Op.eqItems,Nat.mul_one,Sem.run_bind,p0,p1,p2,Result.andThen_ok,qig a x 9997 W,qig b y 9997 W,qig c z 9997 W]
 by_cases h1:a=x<;>by_cases h2:b=y<;>by_cases h3:c=z<;>simp[h1,h2,h3,p0,p1,p2,qig]
theorem qbn (a b c x y z:Int) (W:World):(Op.equalIn 10000 43 (.agg #[.int .i64 a,.int .i64 b,.int .i64 c]) (.agg #[.int .i64 x,.int .i64 y,.int .i64 z])).run Try.prog W=.ok (a == x && (b == y && c == z)) W:=by
 refine eqA_of (d:=9999) Try.underlying43 (by kernel_rfl) ?_
 exact qob rfl (by kernel_rfl) (by kernel_rfl) (pt_arr a b c x y z W)
theorem zp.calls (k:Nat) (A0:Option Addr) (c0:Nat) (l0:List (S43)) (a1_0:Int) (a1_1:Int) (a1_2:Int) (r:Int) (w:World) (hr0:Kd.C k43 w A0 l0.length l0) (hc0:l0.length≤c0) (h:zp.f k l0 a1_0 a1_1 a1_2=some r):
  Calls Try.prog 120 #[.slice A0 l0.length c0,.agg #[.int .i64 a1_0,.int .i64 a1_1,.int .i64 a1_2]] w fun e w'=>e=.returned (.int .i64 r)∧Below w.heap.size w w':=by
 have hu43:=Try.underlying43
 have HR0:=am hr0
 have HC0:=am hc0
 clear hr0 hc0
 have HB:=am (Below.refl w.heap.size w)
 have H:(zp.l0 k l0 (l0.length:Int) 0 a1_0 a1_1 a1_2)=some r:=h
 clear h;have H':=am H;clear H
 go_enter Try.func120,Try.ntmps120
 go_wp2_with (first | ((with_reducible refine zb (N:=3) rfl ?_);refine xe_ 3 43 #[.int .i64 a1_0,.int .i64 a1_1,.int .i64 a1_2] ?_;intro gb433 hg w3 hbox hb;have BK433:=am (hbox);have GW433:=am ((by rw[hg];exact(bz HB):w.heap.size≤gb433));have GE433:=am ((by rw[hg];exact(bz HB):w.heap.size≤gb433));replace HB:=bq HB hb;clear hb hbox hg))
 repeat (go_quiet (first | ((with_reducible refine zb (N:=3) rfl ?_);refine xe_ 3 43 #[.int .i64 a1_0,.int .i64 a1_1,.int .i64 a1_2] ?_;intro gb433 hg w3 hbox hb;have n0_:=bq HB hb;have n1_:=am (hbox);have n2_:=am ((by rw[hg];exact(bz HB):w.heap.size≤gb433));have n3_:=am ((by rw[hg];exact(bz HB):w.heap.size≤gb433));clear HB;have HB:=n0_;have BK433:=n1_;have GW433:=n2_;have GE433:=n3_;clear n0_ n1_ n2_ n3_;clear hb hbox hg));try go_wp2_with (first | ((with_reducible refine zb (N:=3) rfl ?_);refine xe_ 3 43 #[.int .i64 a1_0,.int .i64 a1_1,.int .i64 a1_2] ?_;intro gb433 hg w3 hbox hb;have n0_:=bq HB hb;have n1_:=am (hbox);have n2_:=am ((by rw[hg];exact(bz HB):w.heap.size≤gb433));have n3_:=am ((by rw[hg];exact(bz HB):w.heap.size≤gb433));clear HB;have HB:=n0_;have BK433:=n1_;have GW433:=n2_;have GE433:=n3_;clear n0_ n1_ n2_ n3_;clear hb hbox hg)))
 go_loopg [8] k (fun kq v8 w'=>∃ (x8_1:Int),v8=.int .i64 x8_1∧qf (zp.l0 kq l0 (l0.length:Int) x8_1 a1_0 a1_1 a1_2=some r)∧qf (kq≤k)∧qf (w'.heap[gb433]? =some (.cells #[.int .i64 a1_0,.int .i64 a1_1,.int .i64 a1_2] 43 (0,0)))∧qf (Below w.heap.size w w'))
 case atStart=>exact⟨(0),fr,H',⟨Nat.le_refl _⟩,⟨by (with_reducible repeat (first | refine qx ?_ _ | refine qw ?_ | refine qq ?_ _));exact BK433.out⟩,⟨bx_ HB⟩⟩
 case round=>
  clear H';try clear c1;try clear p2
  obtain⟨x8_1,rfl,HA,HK1,BK433,HB⟩:=hrel
  cases gk with
  | zero=>exact absurd HA.out (by simp[zp.l0])
  | succ k1=>
   have H:=HA.out;clear HA
   simp only[zp.l0]at H
   by_cases c4:x8_1 < (l0.length:Int)
   ·rw [if_pos c4] at H
    have c4b0:=decide_eq_true c4;clear c4;replace H:=ifn H;obtain⟨c5,H⟩:=H;have c5b0:=decide_eq_true c5;clear c5;replace H:=ifn H;obtain⟨c6,H⟩:=H;have c6b0:=decide_eq_true c6;clear c6
    by_cases c7:a1_0=((qd l0 x8_1).f0.f0)
    ·rw[if_pos c7]at H
     have c7b0:=beq_iff_eq.mpr c7;have c7b1:=bne_eq_false_iff_eq.mpr c7;clear c7
     by_cases c8:a1_1=((qd l0 x8_1).f0.f1)
     ·rw[if_pos c8]at H
      have c8b0:=beq_iff_eq.mpr c8;have c8b1:=bne_eq_false_iff_eq.mpr c8;clear c8
      by_cases c9:a1_2=((qd l0 x8_1).f0.f2)
      ·rw[if_pos c9]at H
       have c9b0:=beq_iff_eq.mpr c9;have c9b1:=bne_eq_false_iff_eq.mpr c9;clear c9;obtain rfl:=Option.some.inj H
       have hcz10_0:wr.cell? ⟨gb433,0,none⟩=some (.int .i64 a1_0):=(qe BK433.out 0).trans rfl
       have hcz10_1:wr.cell? ⟨gb433,1,none⟩=some (.int .i64 a1_1):=(qe BK433.out 1).trans rfl
       have hcz10_2:wr.cell? ⟨gb433,2,none⟩=some (.int .i64 a1_2):=(qe BK433.out 2).trans rfl
       have hfz10_0:=ql BK433.out 0
       have hfz10_1:=ql BK433.out 1
       have hfz10_2:=ql BK433.out 2
       have p434:0≤(x8_1:Int):=od
       have q434:x8_1 < (l0.length:Int):=od
       obtain⟨ad434,e434,hx434_0,hx434_1,hx434_2⟩:=Qo HR0.out x8_1 p434 q434
       cases e434
       replace hx434_0:=wcl HB hx434_0
       replace hx434_1:=wcl HB hx434_1
       replace hx434_2:=wcl HB hx434_2
       replace p434:=eq_true p434;replace q434:=eq_true q434;go_wp2
       have hEq:=fun W=>qbn a1_0 a1_1 a1_2 (qd l0 x8_1).f0.f0 (qd l0 x8_1).f0.f1 (qd l0 x8_1).f0.f2 W
       repeat (go_quiet (fail);try go_wp2)
       go_ret
       exact⟨fq,bx_ HB⟩
      ·rw[if_neg c9]at H
       have c9b0:=beq_eq_false_iff_ne.mpr c9;have c9b1:=bne_iff_ne.mpr c9;have H':=am H;clear H
       have hcz11_0:wr.cell? ⟨gb433,0,none⟩=some (.int .i64 a1_0):=(qe BK433.out 0).trans rfl
       have hcz11_1:wr.cell? ⟨gb433,1,none⟩=some (.int .i64 a1_1):=(qe BK433.out 1).trans rfl
       have hcz11_2:wr.cell? ⟨gb433,2,none⟩=some (.int .i64 a1_2):=(qe BK433.out 2).trans rfl
       have hfz11_0:=ql BK433.out 0
       have hfz11_1:=ql BK433.out 1
       have hfz11_2:=ql BK433.out 2
       have p434:0≤(x8_1:Int):=od
       have q434:x8_1 < (l0.length:Int):=od
       obtain⟨ad434,e434,hx434_0,hx434_1,hx434_2⟩:=Qo HR0.out x8_1 p434 q434
       cases e434
       replace hx434_0:=wcl HB hx434_0
       replace hx434_1:=wcl HB hx434_1
       replace hx434_2:=wcl HB hx434_2
       replace p434:=eq_true p434;replace q434:=eq_true q434;go_wp2
       have hEq:=fun W=>qbn a1_0 a1_1 a1_2 (qd l0 x8_1).f0.f0 (qd l0 x8_1).f0.f1 (qd l0 x8_1).f0.f2 W
       repeat (go_quiet (fail);try go_wp2)
       go_roundg k1
       case measure=>have:=HK1.out;omega
       case rel=>exact⟨(wrap64 (x8_1+1)),fr,H',⟨by have:=HK1.out;omega⟩,⟨by (with_reducible repeat (first | refine qx ?_ _ | refine qw ?_ | refine qq ?_ _));exact BK433.out⟩,⟨bx_ HB⟩⟩
     ·rw[if_neg c8]at H
      have c8b0:=beq_eq_false_iff_ne.mpr c8;have c8b1:=bne_iff_ne.mpr c8;have H':=am H;clear H
      have hcz12_0:wr.cell? ⟨gb433,0,none⟩=some (.int .i64 a1_0):=(qe BK433.out 0).trans rfl
      have hcz12_1:wr.cell? ⟨gb433,1,none⟩=some (.int .i64 a1_1):=(qe BK433.out 1).trans rfl
      have hcz12_2:wr.cell? ⟨gb433,2,none⟩=some (.int .i64 a1_2):=(qe BK433.out 2).trans rfl
      have hfz12_0:=ql BK433.out 0
      have hfz12_1:=ql BK433.out 1
      have hfz12_2:=ql BK433.out 2
      have p434:0≤(x8_1:Int):=od
      have q434:x8_1 < (l0.length:Int):=od
      obtain⟨ad434,e434,hx434_0,hx434_1,hx434_2⟩:=Qo HR0.out x8_1 p434 q434
      cases e434
      replace hx434_0:=wcl HB hx434_0
      replace hx434_1:=wcl HB hx434_1
      replace hx434_2:=wcl HB hx434_2
      replace p434:=eq_true p434;replace q434:=eq_true q434;go_wp2
      have hEq:=fun W=>qbn a1_0 a1_1 a1_2 (qd l0 x8_1).f0.f0 (qd l0 x8_1).f0.f1 (qd l0 x8_1).f0.f2 W
      repeat (go_quiet (fail);try go_wp2)
      go_roundg k1
      case measure=>have:=HK1.out;omega
      case rel=>exact⟨(wrap64 (x8_1+1)),fr,H',⟨by have:=HK1.out;omega⟩,⟨by (with_reducible repeat (first | refine qx ?_ _ | refine qw ?_ | refine qq ?_ _));exact BK433.out⟩,⟨bx_ HB⟩⟩
    ·rw[if_neg c7]at H
     have c7b0:=beq_eq_false_iff_ne.mpr c7;have c7b1:=bne_iff_ne.mpr c7;have H':=am H;clear H
     have hcz13_0:wr.cell? ⟨gb433,0,none⟩=some (.int .i64 a1_0):=(qe BK433.out 0).trans rfl
     have hcz13_1:wr.cell? ⟨gb433,1,none⟩=some (.int .i64 a1_1):=(qe BK433.out 1).trans rfl
     have hcz13_2:wr.cell? ⟨gb433,2,none⟩=some (.int .i64 a1_2):=(qe BK433.out 2).trans rfl
     have hfz13_0:=ql BK433.out 0
     have hfz13_1:=ql BK433.out 1
     have hfz13_2:=ql BK433.out 2
     have p434:0≤(x8_1:Int):=od
     have q434:x8_1 < (l0.length:Int):=od
     obtain⟨ad434,e434,hx434_0,hx434_1,hx434_2⟩:=Qo HR0.out x8_1 p434 q434
     cases e434
     replace hx434_0:=wcl HB hx434_0
     replace hx434_1:=wcl HB hx434_1
     replace hx434_2:=wcl HB hx434_2
     replace p434:=eq_true p434;replace q434:=eq_true q434;go_wp2
     have hEq:=fun W=>qbn a1_0 a1_1 a1_2 (qd l0 x8_1).f0.f0 (qd l0 x8_1).f0.f1 (qd l0 x8_1).f0.f2 W
     repeat (go_quiet (fail);try go_wp2)
     go_roundg k1
     case measure=>have:=HK1.out;omega
     case rel=>exact⟨(wrap64 (x8_1+1)),fr,H',⟨by have:=HK1.out;omega⟩,⟨by (with_reducible repeat (first | refine qx ?_ _ | refine qw ?_ | refine qq ?_ _));exact BK433.out⟩,⟨bx_ HB⟩⟩
   ·rw[if_neg c4]at H
    have c4b0:=decide_eq_false c4;clear c4;obtain rfl:=Option.some.inj H;go_wp2
    have hEq:=fun W=>qbn a1_0 a1_1 a1_2 (qd l0 x8_1).f0.f0 (qd l0 x8_1).f0.f1 (qd l0 x8_1).f0.f2 W
    repeat (go_quiet (fail);try go_wp2)
    go_ret
    exact⟨fq,bx_ HB⟩
end Go.Proofs.Ytmgbpmihbljngaa.PA
