-- Written by xprint.py, a program of this claim's own (over the kit's print.py)
import Derived.Test.YtmgbpmihbljngaaPAx9
namespace Go.Proofs.Ytmgbpmihbljngaa.PA
set_option maxHeartbeats 8000000
set_option maxRecDepth 100000
open Go.RowKit Go.Proofs.YtmgbpmihbljngaaW.PrintWords Go.Proofs.YtmgbpmihbljngaaW.PrintLast Go.Proofs.YtmgbpmihbljngaaW.PrintMore
attribute [local go_sem] Qs Qr Qx Qw Qf Qe Qq Qp
set_option linter.unusedVariables false
set_option linter.unusedSimpArgs false
def qr.l0 :Nat→Int→List Int→List (S41)→Int→Int→Int→Int→Option (List Int)
 | 0,_,_,_,_,_,_,_=>none
 | k+1,x0,x5,x6,x7,x262000,x262001,x262002=>if x7 < 10 then (if 0≤x7 then (if x7 < (x6.length:Int) then ((zt.f k x0 x262000 ((zg x6 x7).f0)).bind fun t270=>((zt.f k x0 x262001 ((zg x6 x7).f1)).bind fun t271=>(if x0=0 then (none) else ((zt.f k x0 x262002 ((zg x6 x7).f2)).bind fun t272=>(if x5.length < 17592186044416 then (qr.l0 k x0 (x5++[Int.tmod (wrap64 ((Int.tmod (wrap64 (t270*t271)) x0)*t272)) x0]) x6 (wrap64 (x7+1)) x262000 x262001 x262002) else (none)))))) else (none)) else (none)) else (some x5)
def qr.f (k:Nat) (a0:Int) (a1_0:Int) (a1_1:Int) (a1_2:Int):Option (List Int):=(Zf.f).bind fun t265=>(qr.l0 k a0 (([]:List Int)) t265 0 a1_0 a1_1 a1_2)
theorem qr.mono_l :∀ k,(∀ y0 y1 y2 y3 y4 y5 y6,LeO (qr.l0 k y0 y1 y2 y3 y4 y5 y6) (qr.l0 (k+1) y0 y1 y2 y3 y4 y5 y6))
 | 0=>fun _ _ _ _ _ _ _ r h=>by simp[qr.l0]at h
 | k+1=>by
  have ih0:=qr.mono_l k
  ·intro y0 y1 y2 y3 y4 y5 y6
   unfold qr.l0
   repeat' first | (with_reducible first | apply ih0 | apply zt.mono | exact LeO.refl _ | exact LeO.none _ | refine LeO.ite ?_ ?_ | refine LeO.bind ?_ (fun _=>?_)) | (first | apply ih0 | apply zt.mono | exact LeO.none _ | refine LeO.ite ?_ ?_ | refine LeO.bind ?_ (fun _=>?_))
theorem qr.mono :∀ a0 a1 a2 a3 k,LeO (qr.f k a0 a1 a2 a3) (qr.f (k+1) a0 a1 a2 a3):=by
 intro a0 a1 a2 a3 k
 have ih0:=qr.mono_l k
 unfold qr.f
 repeat' first | (with_reducible first | apply ih0 | apply zt.mono | exact LeO.refl _ | exact LeO.none _ | refine LeO.ite ?_ ?_ | refine LeO.bind ?_ (fun _=>?_)) | (first | apply ih0 | apply zt.mono | exact LeO.none _ | refine LeO.ite ?_ ?_ | refine LeO.bind ?_ (fun _=>?_))
def qr.T7 :Bool×List (List Nat×List Nat):=(true,[([],[]),([],[]),([],[]),([2],[2]),([3],[3]),([],[]),([5],[5]),([1,4,6],[1,4,6]),([],[]),([],[]),([9],[9]),([10],[10]),([],[]),([12],[12]),([8,11,13,7],[8,11,13]),([7,14],[7,14]),([],[]),([15,16],[15,16]),([],[]),([],[]),([19],[19]),([20],[20]),([],[]),([22],[22]),([18,21,23,14],[18,21,23]),([17,24],[17,24]),([],[]),([25,26],[25,26]),([27],[27]),([0,28,24],[0,28]),([29,29,0,1,2,3,4,5,6,7,8,9,10,11,12,13,14,15,16,17,18,19,20,21,22,23,24,25,26,27,28,29],[0,29])])
def qr.B7 :List Nat:=[0,0,0,4,12,0,32,126,0,0,512,1536,0,4096,16382,32766,0,131070,0,0,524288,1572864,0,4194304,16547838,33554430,0,134217726,268435454,536870911,1073741823]
theorem qr.tab7 :rtab .any (Z0 Try.f123 7)=qr.T7:=by kernel_rfl
theorem qr.bits7 :Qj qr.T7.2 qr.B7=true:=by kernel_rfl
theorem qr.calls (k:Nat) (a0:Int) (a1_0:Int) (a1_1:Int) (a1_2:Int) (r:List Int) (w:World) (h:qr.f k a0 a1_0 a1_1 a1_2=some r):
  Calls Try.prog 123 #[.int .i64 a0,.agg #[.int .i64 a1_0,.int .i64 a1_1,.int .i64 a1_2]] w fun e w'=>∃ v0_:Value,e=.returned (v0_)∧Kd.R (Kd.int .i64) 3 w' w.heap.size (fun _=>True) v0_ r∧Below w.heap.size w w':=by
 have hu43:=Try.underlying43
 have hu41:=Try.underlying41
 have HB:=am (Below.refl w.heap.size w)
 have H:((Zf.f).bind fun t265=>(qr.l0 k a0 (([]:List Int)) t265 0 a1_0 a1_1 a1_2))=some r:=h
 clear h
 generalize hy262:(([]:List Int))=y262 at H
 have Ny262:=am hy262.symm;clear hy262;replace H:=bs H;obtain⟨t265,A3,H⟩:=H;have H':=am H;clear H
 go_enter Try.func123,Try.ntmps123
 go_wp2_with (first | ((with_reducible refine zb (N:=3) rfl ?_);refine xe_ 3 43 #[.int .i64 a1_0,.int .i64 a1_1,.int .i64 a1_2] ?_;intro gb261 hg w4 hbox hb;have BK261:=am (hbox);have GW261:=am ((by rw[hg];exact(bz HB):w.heap.size≤gb261));have GE261:=am ((by rw[hg];exact(bz HB):w.heap.size≤gb261));replace HB:=bq HB hb;clear hb hbox hg) | ((with_reducible refine zb (N:=9) rfl ?_);refine li 3 ([]:List Int) ?_;intro v263 w5 ho6 hb;(first | rw[← Ny262.out]at ho6 | (simp only[Int.reduceToNat]at ho6;rw[← Ny262.out]at ho6));have HO264:=am (Kd.R_lower ho6 (zo (bx_ HB)));replace BK261:=am (qv (g:=gb261) (o:=.cells #[.int .i64 a1_0,.int .i64 a1_1,.int .i64 a1_2] 43 (0,0)) (pk_ BK261) hb);replace HB:=am (jg (bx_ HB) hb);clear hb ho6) | ((with_reducible refine qt (f:=157) rfl ?_);refine gl 10 Try.func157 #[] ?_;(with_reducible refine(Zf.calls  t265 _ A3.out).mono ?_);rintro e w7 ⟨v266,rfl,ho0,hb⟩;refine⟨_,rfl,?_⟩;replace HO264:=am (Kd.R_below (wR HO264) hb);have HO267:=am (Kd.R_lower ho0 (zo (bx_ HB)));replace BK261:=am (qv (g:=gb261) (o:=.cells #[.int .i64 a1_0,.int .i64 a1_1,.int .i64 a1_2] 43 (0,0)) (pk_ BK261) hb);replace HB:=am (jg (bx_ HB) hb);(try clear hb);(try clear ho0)))
 go_loopg [5,7] k (fun kq v5 v7 w'=>∃ (x5_1:List Int) (x7_1:Int),v7=.int .i64 x7_1∧qf (qr.l0 kq a0 x5_1 t265 x7_1 a1_0 a1_1 a1_2=some r)∧qf (kq≤k)∧qf (Kd.R (Kd.int .i64) 3 w' w.heap.size (fun _=>True) v5 x5_1)∧qf (Kd.R k41 41 w' w.heap.size (fun _=>True) v266 t265)∧qf (w'.heap[gb261]? =some (.cells #[.int .i64 a1_0,.int .i64 a1_1,.int .i64 a1_2] 43 (0,0)))∧qf (Below w.heap.size w w'))
 case atStart=>exact⟨(y262),(0),fr,H',⟨Nat.le_refl _⟩,⟨wR HO264⟩,⟨wR HO267⟩,⟨by (with_reducible repeat (first | refine qx ?_ _ | refine qw ?_ | refine qq ?_ _));exact BK261.out⟩,⟨bx_ HB⟩⟩
 case round=>
  clear H';try clear c1;try clear p2
  obtain⟨x5_1,x7_1,rfl,HA,HK1,HO_5,HO_6,BK261,HB⟩:=hrel
  cases gk with
  | zero=>exact absurd HA.out (by simp[qr.l0])
  | succ k1=>
   have H:=HA.out;clear HA
   simp only[qr.l0]at H
   by_cases c8:x7_1 < 10
   ·rw[if_pos c8]at H
    have c8b0:=decide_eq_true c8;clear c8;replace H:=ifn H;obtain⟨c9,H⟩:=H;have c9b0:=decide_eq_true c9;clear c9;replace H:=ifn H;obtain⟨c10,H⟩:=H;have c10b0:=decide_eq_true c10;clear c10;replace H:=bs H;obtain⟨t270,A11,H⟩:=H
    replace H:=bs H;obtain⟨t271,A12,H⟩:=H;replace H:=ifm H;obtain⟨c13,H⟩:=H;have c13b0:=beq_eq_false_iff_ne.mpr c13;have c13b1:=bne_iff_ne.mpr c13;replace H:=bs H;obtain⟨t272,A14,H⟩:=H;replace H:=ifn H;obtain⟨c15,H⟩:=H
    have LMc15:=am c15;clear c15
    generalize hy273:(x5_1++[Int.tmod (wrap64 ((Int.tmod (wrap64 (t270*t271)) a0)*t272)) a0]:List Int)=y273 at H
    have Ny273:=am hy273.symm;clear hy273;have H':=am H;clear H
    obtain⟨Ao16,co16,eo16⟩:=Kd.R_slice HO_6.out
    subst eo16
    have p268:0≤(x7_1:Int):=od
    have q268:x7_1 < (t265.length:Int):=od
    obtain⟨ad268,e268,hx268_0,hx268_1,hx268_2⟩:=qh2 (Kd.R_reads' HO_6.out).2.2 x7_1 p268 q268
    cases e268;replace p268:=eq_true p268;replace q268:=eq_true q268
    try go_wp2_with (first | ((with_reducible refine zb (N:=8) rfl ?_);refine xe_ 8 41 #[.int .i64 0,.int .i64 0,.int .i64 0] ?_;intro gb269 hg w17 hbox hb;replace HO_5:=am (Kd.R_below (wR HO_5) hb);replace HO_6:=am (Kd.R_below (Kd.R_elderB (wR HO_6) gb269 (Nat.le_of_eq hg.symm)) hb);have BK269:=am (hbox);have GW269:=am ((by rw[hg];exact(zo (bx_ HB)):w.heap.size≤gb269));have GE269:=am ((by rw[hg];exact(zo (bx_ HB)):w.heap.size≤gb269));replace HB:=am (jg (bx_ HB) hb);have NB261_269:=am ((by rw[hg];exact Nat.ne_of_lt (jy (g:=gb261) (o:=.cells #[.int .i64 a1_0,.int .i64 a1_1,.int .i64 a1_2] 43 (0,0)) (pk_ BK261)):gb261≠gb269));have NB269_261:=am ((by rw[hg];exact Nat.ne_of_gt (jy (g:=gb261) (o:=.cells #[.int .i64 a1_0,.int .i64 a1_1,.int .i64 a1_2] 43 (0,0)) (pk_ BK261)):gb269≠gb261));replace BK261:=am (qv (g:=gb261) (o:=.cells #[.int .i64 a1_0,.int .i64 a1_1,.int .i64 a1_2] 43 (0,0)) (pk_ BK261) hb);clear hb hbox hg;have hnb18:=NB269_261.out;have hnc18:=NB261_269.out;have hcz19_0:w17.cell? ⟨gb269,0,none⟩=some (.int .i64 0):=(qe BK269.out 0).trans rfl;have hcz19_1:w17.cell? ⟨gb269,1,none⟩=some (.int .i64 0):=(qe BK269.out 1).trans rfl;have hcz19_2:w17.cell? ⟨gb269,2,none⟩=some (.int .i64 0):=(qe BK269.out 2).trans rfl;have hfz19_0:=ql BK269.out 0;have hfz19_1:=ql BK269.out 1;have hfz19_2:=ql BK269.out 2))
    have n0_:qf (Kd.R (Kd.int .i64) 3 (((w17.setCell ⟨gb269,0,none⟩ (.int .i64 ((zg t265 x7_1).f0))).setCell ⟨gb269,1,none⟩ (.int .i64 ((zg t265 x7_1).f1))).setCell ⟨gb269,2,none⟩ (.int .i64 ((zg t265 x7_1).f2))) w.heap.size (fun _=>True) u5 x5_1):=⟨by (with_reducible repeat (first | apply Kd.R_alloc | apply Kd.R_drewN | apply Kd.R_drew));exact Kd.R_mono (Kd.R_far (p:=⟨gb269,2,none⟩) (Kd.R_far (p:=⟨gb269,1,none⟩) (Kd.R_far (p:=⟨gb269,0,none⟩) (Kd.R_types HO_5.out BK269.out (by decide)) (fun _ hk=>hk.2) (.int .i64 ((zg t265 x7_1).f0))) (fun _ hk=>hk.2) (.int .i64 ((zg t265 x7_1).f1))) (fun _ hk=>hk.2) (.int .i64 ((zg t265 x7_1).f2))) (fun _ hk=>trivial)⟩
    have n1_:qf (Kd.R k41 41 (((w17.setCell ⟨gb269,0,none⟩ (.int .i64 ((zg t265 x7_1).f0))).setCell ⟨gb269,1,none⟩ (.int .i64 ((zg t265 x7_1).f1))).setCell ⟨gb269,2,none⟩ (.int .i64 ((zg t265 x7_1).f2))) w.heap.size (fun k_=>k_≠gb269) (.slice (some ad268) t265.length co16) t265):=⟨by (with_reducible repeat (first | apply Kd.R_alloc | apply Kd.R_drewN | apply Kd.R_drew));exact Kd.R_mono (Kd.R_far (p:=⟨gb269,2,none⟩) (Kd.R_far (p:=⟨gb269,1,none⟩) (Kd.R_far (p:=⟨gb269,0,none⟩) (Kd.R_mono HO_6.out (fun k_ hk=>(⟨hk,hk.2⟩:_∧k_≠gb269))) (fun _ hk=>hk.2) (.int .i64 ((zg t265 x7_1).f0))) (fun _ hk=>hk.2) (.int .i64 ((zg t265 x7_1).f1))) (fun _ hk=>hk.2) (.int .i64 ((zg t265 x7_1).f2))) (fun _ hk=>hk.1.2)⟩
    have n2_:qf ((((w17.setCell ⟨gb269,0,none⟩ (.int .i64 ((zg t265 x7_1).f0))).setCell ⟨gb269,1,none⟩ (.int .i64 ((zg t265 x7_1).f1))).setCell ⟨gb269,2,none⟩ (.int .i64 ((zg t265 x7_1).f2))).heap[gb261]? =some (.cells #[.int .i64 a1_0,.int .i64 a1_1,.int .i64 a1_2] 43 (0,0))):=⟨by (with_reducible repeat (first | refine qx ?_ _ | refine qw ?_ | refine qq ?_ _));refine Qk ?_ NB261_269.out _;(with_reducible repeat (first | refine qx ?_ _ | refine qw ?_ | refine qq ?_ _));refine Qk ?_ NB261_269.out _;(with_reducible repeat (first | refine qx ?_ _ | refine qw ?_ | refine qq ?_ _));refine Qk ?_ NB261_269.out _;(with_reducible repeat (first | refine qx ?_ _ | refine qw ?_ | refine qq ?_ _));exact BK261.out⟩
    have n3_:qf ((((w17.setCell ⟨gb269,0,none⟩ (.int .i64 ((zg t265 x7_1).f0))).setCell ⟨gb269,1,none⟩ (.int .i64 ((zg t265 x7_1).f1))).setCell ⟨gb269,2,none⟩ (.int .i64 ((zg t265 x7_1).f2))).heap[gb269]? =some (.cells #[.int .i64 ((zg t265 x7_1).f0),.int .i64 ((zg t265 x7_1).f1),.int .i64 ((zg t265 x7_1).f2)] 41 (0,0))):=⟨by (with_reducible repeat (first | refine qx ?_ _ | refine qw ?_ | refine qq ?_ _));refine Qu (cs:=#[.int .i64 ((zg t265 x7_1).f0),.int .i64 ((zg t265 x7_1).f1),.int .i64 0]) ?_ 2 _ rfl;(with_reducible repeat (first | refine qx ?_ _ | refine qw ?_ | refine qq ?_ _));refine Qu (cs:=#[.int .i64 ((zg t265 x7_1).f0),.int .i64 0,.int .i64 0]) ?_ 1 _ rfl;(with_reducible repeat (first | refine qx ?_ _ | refine qw ?_ | refine qq ?_ _));refine Qu (cs:=#[.int .i64 0,.int .i64 0,.int .i64 0]) ?_ 0 _ rfl;(with_reducible repeat (first | refine qx ?_ _ | refine qw ?_ | refine qq ?_ _));exact BK269.out⟩
    have n4_:qf (Below w.heap.size w (((w17.setCell ⟨gb269,0,none⟩ (.int .i64 ((zg t265 x7_1).f0))).setCell ⟨gb269,1,none⟩ (.int .i64 ((zg t265 x7_1).f1))).setCell ⟨gb269,2,none⟩ (.int .i64 ((zg t265 x7_1).f2)))):=⟨bx_ HB⟩
    (try clear HO_5)
    (try clear HO_6)
    (try clear BK261)
    (try clear BK269)
    (try clear HB)
    generalize (((w17.setCell ⟨gb269,0,none⟩ (.int .i64 ((zg t265 x7_1).f0))).setCell ⟨gb269,1,none⟩ (.int .i64 ((zg t265 x7_1).f1))).setCell ⟨gb269,2,none⟩ (.int .i64 ((zg t265 x7_1).f2)))=w20 at n0_ n1_ n2_ n3_ n4_ ⊢
    have HO_5:=n0_
    have HO_6:=n1_
    have BK261:=n2_
    have BK269:=n3_
    have HB:=n4_
    clear n0_ n1_ n2_ n3_ n4_
    replace HO_5:=am (Kd.R_drew HO_5.out)
    replace HO_6:=am (Kd.R_drew HO_6.out)
    replace BK261:=am (qw BK261.out)
    replace BK269:=am (qw BK269.out)
    replace HB:=am (Qg HB.out)
    refine st 31 (fun w'=>w'.cell? ⟨gb261,0,none⟩=some (.int .i64 a1_0)∧w'.cell? ⟨gb261,1,none⟩=some (.int .i64 a1_1)∧w'.cell? ⟨gb261,2,none⟩=some (.int .i64 a1_2)∧w'.cell? ⟨gb269,0,none⟩=some (.int .i64 ((zg t265 x7_1).f0))∧w'.cell? ⟨gb269,1,none⟩=some (.int .i64 ((zg t265 x7_1).f1))∧w'.cell? ⟨gb269,2,none⟩=some (.int .i64 ((zg t265 x7_1).f2))) [] qr.tab7 qr.bits7 (⟨(qe BK261.out 0).trans rfl,(qe BK261.out 1).trans rfl,(qe BK261.out 2).trans rfl,(qe BK269.out 0).trans rfl,(qe BK269.out 1).trans rfl,(qe BK269.out 2).trans rfl⟩) fun hHeld HT_ HW_=>?_
    generalize w20.drew=w21 at HO_5 HO_6 BK261 BK269 HB hHeld ⊢
    refine pz 0 19 HT_ ?_;refine pz 1 20 HT_ ?_;refine pz 2 21 HT_ ?_;refine pz 3 22 HT_ ?_;refine pz 5 24 HT_ ?_;refine pz 8 27 HT_ ?_;refine pz 9 28 HT_ ?_;refine pz 10 29 HT_ ?_;refine pz 12 31 HT_ ?_;refine pz 16 35 HT_ ?_;refine pz 18 37 HT_ ?_
    refine pz 19 38 HT_ ?_;refine pz 20 39 HT_ ?_;refine pz 22 41 HT_ ?_;refine pz 26 45 HT_ ?_;refine tk 4 23 HT_ HW_ hHeld ?_;refine tk 6 25 HT_ HW_ hHeld ?_;refine tk 11 30 HT_ HW_ hHeld ?_;refine tk 13 32 HT_ HW_ hHeld ?_;refine tk 21 40 HT_ HW_ hHeld ?_
    refine tk 23 42 HT_ HW_ hHeld ?_
    refine on 7 (some 26) HT_ fun K hK=>?_
    refine gs_ Try.func162 #[.int .i64 a0,.int .i64 a1_0,.int .i64 ((zg t265 x7_1).f0)] ?_
    with_reducible refine(zt.calls k1 a0 a1_0 ((zg t265 x7_1).f0) t270 _ A11.out).mono ?_
    rintro e w' ⟨rfl,⟨nd,rfl⟩⟩
    refine⟨_,rfl,?_⟩
    refine hK.out _ _ ⟨(qe BK261.out 0).trans rfl,(qe BK261.out 1).trans rfl,(qe BK261.out 2).trans rfl,(qe BK269.out 0).trans rfl,(qe BK269.out 1).trans rfl,(qe BK269.out 2).trans rfl⟩ fun hHeld=>nz ?_
    clear hK K
    refine on 14 (some 33) HT_ fun K hK=>?_
    refine gs_ Try.func162 #[.int .i64 a0,.int .i64 a1_1,.int .i64 ((zg t265 x7_1).f1)] ?_
    with_reducible refine(zt.calls k1 a0 a1_1 ((zg t265 x7_1).f1) t271 _ A12.out).mono ?_
    rintro e w' ⟨rfl,⟨nd,rfl⟩⟩
    refine⟨_,rfl,?_⟩
    refine hK.out _ _ ⟨(qe BK261.out 0).trans rfl,(qe BK261.out 1).trans rfl,(qe BK261.out 2).trans rfl,(qe BK269.out 0).trans rfl,(qe BK269.out 1).trans rfl,(qe BK269.out 2).trans rfl⟩ fun hHeld=>nz ?_
    clear hK K;refine pz 15 34 HT_ ?_;refine pz 17 36 HT_ ?_
    refine on 24 (some 43) HT_ fun K hK=>?_
    refine gs_ Try.func162 #[.int .i64 a0,.int .i64 a1_2,.int .i64 ((zg t265 x7_1).f2)] ?_
    with_reducible refine(zt.calls k1 a0 a1_2 ((zg t265 x7_1).f2) t272 _ A14.out).mono ?_
    rintro e w' ⟨rfl,⟨nd,rfl⟩⟩
    refine⟨_,rfl,?_⟩
    refine hK.out _ _ ⟨(qe BK261.out 0).trans rfl,(qe BK261.out 1).trans rfl,(qe BK261.out 2).trans rfl,(qe BK269.out 0).trans rfl,(qe BK269.out 1).trans rfl,(qe BK269.out 2).trans rfl⟩ fun hHeld=>nz ?_
    clear hK K;refine pz 25 44 HT_ ?_;refine pz 27 46 HT_ ?_
    refine on 28 (some 47) HT_ fun K hK=>?_
    refine qbm (w1:=?_) (v:=?_) (by rfl) rfl ?_ ?_
    rotate_left 2
    ·go_simp
     constructor
     ·rfl
     ·rfl
    refine hK.out _ _ ⟨(qe (qq BK261.out _) 0).trans rfl,(qe (qq BK261.out _) 1).trans rfl,(qe (qq BK261.out _) 2).trans rfl,(qe (qq BK269.out _) 0).trans rfl,(qe (qq BK269.out _) 1).trans rfl,(qe (qq BK269.out _) 2).trans rfl⟩ fun hHeld=>nz ?_
    clear hK K
    refine on 29 (some 48) HT_ fun K hK=>?_
    refine Kd.R_append_step (Kd.int .i64) (w0:=w) w.heap.size (by rfl) (.tmp 19) (.tmp 47) 23 3 (.int .i64 0) 8 rfl Try.underlying23 Jm rfl (by decide) (by omega) u5 x5_1 (Int.tmod (wrap64 ((Int.tmod (wrap64 (t270*t271)) a0)*t272)) a0) [.int .i64 (Int.tmod (wrap64 ((Int.tmod (wrap64 (t270*t271)) a0)*t272)) a0)] (fun _=>True) (fun _=>False) rfl rfl ?aP (fun _ hk=>hk.elim) ?aF ?aO ?aB ?aS ?aL ?_
    (case aP=>exact rfl)
    (case aB=>exact(bx_ HB))
    (case aF=>exact(fun _ _=>trivial))
    (case aO=>exact(wR HO_5))
    (case aS=>exact(zo (bx_ HB)))
    (case aL=>have:=LMc15.out;omega)
    intro v274 w22 ho hb hg hat
    rw[← Ny273.out]at ho
    replace HO_6:=am (Kd.R_over' (wR HO_6) (Kd.R_typed (wR HO_5)) (by decide) hg)
    replace BK261:=am (Q2 (g:=gb261) (o:=.cells #[.int .i64 a1_0,.int .i64 a1_1,.int .i64 a1_2] 43 (0,0)) (pk_ BK261) hg (Kd.R_ne HO_5.out BK261.out (by decide)))
    replace BK269:=am (Q2 (g:=gb269) (o:=.cells #[.int .i64 ((zg t265 x7_1).f0),.int .i64 ((zg t265 x7_1).f1),.int .i64 ((zg t265 x7_1).f2)] 41 (0,0)) (pk_ BK269) hg (Kd.R_ne HO_5.out BK269.out (by decide)))
    replace HB:=am (hb)
    have HO275:=am (ho)
    clear HO_5;clear ho hb hg hat
    refine hK.out _ _ ⟨(qe BK261.out 0).trans rfl,(qe BK261.out 1).trans rfl,(qe BK261.out 2).trans rfl,(qe BK269.out 0).trans rfl,(qe BK269.out 1).trans rfl,(qe BK269.out 2).trans rfl⟩ fun hHeld=>nz ?_
    clear hK K;refine pz 30 5 HT_ ?_
    refine Q3 (Qa HT_.out (by kernel_rfl)) ?_
    try go_wp2
    go_roundg k1
    case measure=>have:=HK1.out;omega
    case rel=>exact⟨(y273),(wrap64 (x7_1+1)),fr,H',⟨by have:=HK1.out;omega⟩,⟨wR HO275⟩,⟨Kd.R_below (Kd.R_mono HO_6.out (fun _ hk=>trivial)) gs⟩,⟨by (with_reducible repeat (first | refine qx ?_ _ | refine qw ?_ | refine qq ?_ _));exact BK261.out⟩,⟨bx_ HB⟩⟩
   ·rw[if_neg c8]at H
    have c8b0:=decide_eq_false c8;clear c8;obtain rfl:=Option.some.inj H;go_wp2;go_ret
    exact⟨_,fq,wR HO_5,bx_ HB⟩
def jm.l0 :Nat→Int→List (S43)→List (List Int)→Int→Option ((List (List Int)))
 | 0,_,_,_,_=>none
 | k+1,x0,x1,x5,x6=>if x6 < 6 then (if 0≤x6 then (if x6 < (x1.length:Int) then ((qr.f k x0 ((qd x1 x6).f0.f0) ((qd x1 x6).f0.f1) ((qd x1 x6).f0.f2)).bind fun t280=>(if x5.length < 5864062014805 then (jm.l0 k x0 x1 (x5++[t280]) (wrap64 (x6+1))) else (none))) else (none)) else (none)) else ((qp.f k x0 x5 10).bind fun t286=>(some t286))
def jm.f (k:Nat) (a0:Int) (l1:List (S43)):Option ((List (List Int))):=jm.l0 k a0 l1 (([]:List (List Int))) 0
theorem jm.mono_l :∀ k,(∀ y0 y1 y2 y3,LeO (jm.l0 k y0 y1 y2 y3) (jm.l0 (k+1) y0 y1 y2 y3))
 | 0=>fun _ _ _ _ r h=>by simp[jm.l0]at h
 | k+1=>by
  have ih0:=jm.mono_l k
  ·intro y0 y1 y2 y3
   unfold jm.l0
   repeat' first | (with_reducible first | apply ih0 | apply qp.mono | apply qr.mono | exact LeO.refl _ | exact LeO.none _ | refine LeO.ite ?_ ?_ | refine LeO.bind ?_ (fun _=>?_)) | (first | apply ih0 | apply qp.mono | apply qr.mono | exact LeO.none _ | refine LeO.ite ?_ ?_ | refine LeO.bind ?_ (fun _=>?_))
theorem jm.mono :∀ a0 a1 k,LeO (jm.f k a0 a1) (jm.f (k+1) a0 a1):=by
 intro a0 a1 k
 have ih0:=jm.mono_l k
 unfold jm.f
 repeat' first | (with_reducible first | apply ih0 | apply qp.mono | apply qr.mono | exact LeO.refl _ | exact LeO.none _ | refine LeO.ite ?_ ?_ | refine LeO.bind ?_ (fun _=>?_)) | (first | apply ih0 | apply qp.mono | apply qr.mono | exact LeO.none _ | refine LeO.ite ?_ ?_ | refine LeO.bind ?_ (fun _=>?_))
theorem jm.calls (k:Nat) (a0:Int) (A1:Option Addr) (c1:Nat) (l1:List (S43)) (r:List (List Int)) (w:World) (hr1:Kd.C k43 w A1 l1.length l1) (hc1:l1.length≤c1) (h:jm.f k a0 l1=some r):
  Calls Try.prog 78 #[.int .i64 a0,.slice A1 l1.length c1] w fun e w'=>∃ v0_:Value,e=.returned (v0_)∧Kd.N (Kd.slice 3 (Kd.int .i64)) 23 w' w.heap.size (fun k_=>(w.heap.size≤k_)) v0_ r∧Below w.heap.size w w':=by
 have hu43:=Try.underlying43
 have HR1:=am hr1
 have HC1:=am hc1
 clear hr1 hc1
 have HB:=am (Below.refl w.heap.size w)
 have H:(jm.l0 k a0 l1 (([]:List (List Int))) 0)=some r:=h
 clear h
 generalize hy276:(([]:List (List Int)))=y276 at H
 have Ny276:=am hy276.symm;clear hy276;have H':=am H;clear H
 go_enter Try.func78,Try.ntmps78
 go_wp2_with (first | ((with_reducible refine zb (N:=7) rfl ?_);refine Kd.N_lit (Kd.slice 3 (Kd.int .i64)) _ 23 ?hg (N':=7) ?hd (xs:=([]:List (List Int))) (inner:=[]) (ok:=(fun k_=>(w.heap.size≤k_))) (okp:=(fun k_=>(w.heap.size≤k_))) ?hr ?hp (fun _ hk=>hk) ((show ∀ k_,w.heap.size≤k_→(fun k_=>(w.heap.size≤k_)) k_ from fun k_ hk=>(Nat.le_trans (bz HB) hk)) _ (Nat.le_refl _)) (Below.refl _ _) (Nat.le_refl _) (by simp) ?_;(case hd=>rfl);(case hg=>rfl);(case hr=>first | (go_simp;done) | (go_simp;rfl));(case hp=>exact(Reps.none _ _));intro v277 w3 ho4 hb hg_ hnew_;clear hg_ hnew_;(first | rw[← Ny276.out]at ho4 | (simp only[Int.reduceToNat]at ho4;rw[← Ny276.out]at ho4));have HO278:=am (Kd.N_lower ho4 (bz HB));replace HB:=bq HB hb;clear hb ho4))
 go_loopg [5,6] k (fun kq v5 v6 w'=>∃ (x5_1:List (List Int)) (x6_1:Int),v6=.int .i64 x6_1∧qf (jm.l0 kq a0 l1 x5_1 x6_1=some r)∧qf (kq≤k)∧qf (Kd.N (Kd.slice 3 (Kd.int .i64)) 23 w' w.heap.size (fun k_=>(w.heap.size≤k_)) v5 x5_1)∧qf (Below w.heap.size w w'))
 case atStart=>exact⟨(y276),(0),fr,H',⟨Nat.le_refl _⟩,⟨wN HO278⟩,⟨bw HB⟩⟩
 case round=>
  clear H';try clear c1;try clear p2
  obtain⟨x5_1,x6_1,rfl,HA,HK1,HO_5,HB⟩:=hrel
  cases gk with
  | zero=>exact absurd HA.out (by simp[jm.l0])
  | succ k1=>
   have H:=HA.out;clear HA
   simp only[jm.l0]at H
   by_cases c5:x6_1 < 6
   ·rw[if_pos c5]at H
    have c5b0:=decide_eq_true c5;clear c5;replace H:=ifn H;obtain⟨c6,H⟩:=H;have c6b0:=decide_eq_true c6;clear c6;replace H:=ifn H;obtain⟨c7,H⟩:=H;have c7b0:=decide_eq_true c7;clear c7;replace H:=bs H;obtain⟨t280,A8,H⟩:=H
    replace H:=ifn H;obtain⟨c9,H⟩:=H;have LMc9:=am c9;clear c9
    generalize hy283:(x5_1++[t280]:List (List Int))=y283 at H
    have Ny283:=am hy283.symm;clear hy283;have H':=am H;clear H
    have p279:0≤(x6_1:Int):=od
    have q279:x6_1 < (l1.length:Int):=od
    obtain⟨ad279,e279,hx279_0,hx279_1,hx279_2⟩:=Qo HR1.out x6_1 p279 q279
    cases e279
    replace hx279_0:=wcl HB hx279_0
    replace hx279_1:=wcl HB hx279_1
    replace hx279_2:=wcl HB hx279_2
    replace p279:=eq_true p279;replace q279:=eq_true q279
    go_wp2_with (first | ((with_reducible refine qt (f:=123) rfl ?_);refine gl 18 Try.func123 #[.int .i64 a0,.agg #[.int .i64 ((qd l1 x6_1).f0.f0),.int .i64 ((qd l1 x6_1).f0.f1),.int .i64 ((qd l1 x6_1).f0.f2)]] ?_;(with_reducible refine(qr.calls k1 a0 ((qd l1 x6_1).f0.f0) ((qd l1 x6_1).f0.f1) ((qd l1 x6_1).f0.f2) t280 _ A8.out).mono ?_);rintro e w10 ⟨v281,rfl,ho0,hb⟩;refine⟨_,rfl,?_⟩;replace HO_5:=eN HO_5 (Kd.R_base ho0) hb;have HO282:=am (mR ho0 HB);replace HB:=bq HB hb;(try clear hb);(try clear ho0);obtain⟨Ao12,co12,eo12⟩:=Kd.R_slice HO282.out;subst eo12) | ((with_reducible refine jr (b:=.append) (xs:=#[.tmp 12,.tmp 19]) rfl ?_);at_builtin;refine Kd.N_append (Kd.slice 3 (Kd.int .i64)) (w0:=w) w.heap.size rfl (.tmp 12) (.tmp 19) 47 23 (.slice none 0 0) 24 rfl Try.underlying47 Zu rfl (by decide) (by omega) u5 x5_1 t280 [.slice Ao12 t280.length co12] (fun k_=>(w.heap.size≤k_)) (fun k_=>((fun k_=>(w.heap.size≤k_))) k_∧some k_≠(u5:Value).ownBlock) rfl rfl ?aP (fun _ hk=>hk) ?aF ?aO ?aB ?aS ?aL ?_;(case aP=>exact(Kd.FK_slice_mk (Kd.R_reads' (Kd.R_mono (ok':=(fun k_=>((fun k_=>(w.heap.size≤k_))) k_∧some k_≠(u5:Value).ownBlock)) (Kd.R_apart' (HO282.out) (Kd.N_typed HO_5.out) (by decide)) (fun k_ hk=>⟨hk.1.1,hk.2⟩))).2.1 (Kd.R_F (Kd.R_mono (ok':=(fun k_=>((fun k_=>(w.heap.size≤k_))) k_∧some k_≠(u5:Value).ownBlock)) (Kd.R_apart' (HO282.out) (Kd.N_typed HO_5.out) (by decide)) (fun k_ hk=>⟨hk.1.1,hk.2⟩)))));(case aB=>exact(bw HB));(case aF=>exact(fun k_ hk=>(Nat.le_trans (bz HB) hk)));(case aO=>exact(oN_ HO_5 (fun _ hk=>hk.1)));(case aS=>exact(bz HB));(case aL=>have:=LMc9.out;omega);intro v284 w11 ho hb hg hat;rw[← Ny283.out]at ho;replace HB:=am (hb);have HO285:=am (ho);clear HO_5 HO282;clear ho hb hg hat))
    go_roundg k1
    case measure=>have:=HK1.out;omega
    case rel=>exact⟨(y283),(wrap64 (x6_1+1)),fr,H',⟨by have:=HK1.out;omega⟩,⟨wN HO285⟩,⟨bw HB⟩⟩
   ·rw[if_neg c5]at H
    have c5b0:=decide_eq_false c5;clear c5;replace H:=bs H;obtain⟨t286,A13,H⟩:=H;obtain rfl:=Option.some.inj H
    obtain⟨Ao14,co14,eo14⟩:=Kd.N_slice HO_5.out
    subst eo14
    go_wp2_with (first | ((with_reducible refine qt (f:=109) rfl ?_);refine gl 23 Try.func109 #[.int .i64 a0,.slice Ao14 x5_1.length co14,.int .i64 10] ?_;(with_reducible refine(qp.calls k1 a0 (fun k_=>(w.heap.size≤k_)) _ _ x5_1 10 t286 _ ?_ A13.out).mono ?_);exact Kd.N_V (HO_5.out);rintro e w15 ⟨v287,rfl,ho0,hb⟩;refine⟨_,rfl,?_⟩;replace HO_5:=eN HO_5 (Kd.N_base ho0) hb;have HO288:=am (Kd.N_lower (Kd.N_mono (ok':=fun k_=>(w.heap.size≤k_)) ho0 (fun k_ hk_=>Or.elim hk_ (fun hs_=>hs_) (fun hn_=>(Nat.le_trans (bz HB) hn_)))) (bz HB));replace HB:=bq HB hb;(try clear hb);(try clear ho0)))
    go_ret
    exact⟨_,fq,wN HO288,bw HB⟩
def jf.l0 :Nat→Int→List Int→List Int→Int→Int→Option (Int)
 | 0,_,_,_,_,_=>none
 | k+1,x0,x1,x2,x7,x8=>if x8 < (x1.length:Int) then (if 0≤x8 then (if x8 < (x2.length:Int) then (if x0=0 then (none) else (jf.l0 k x0 x1 x2 (Int.tmod (wrap64 (x7+(wrap64 ((rd x1 x8)*(rd x2 x8))))) x0) (wrap64 (x8+1)))) else (none)) else (none)) else (some x7)
def jf.f (k:Nat) (a0:Int) (l1:List Int) (l2:List Int):Option (Int):=jf.l0 k a0 l1 l2 0 0
theorem jf.mono_l :∀ k,(∀ y0 y1 y2 y3 y4,LeO (jf.l0 k y0 y1 y2 y3 y4) (jf.l0 (k+1) y0 y1 y2 y3 y4))
 | 0=>fun _ _ _ _ _ r h=>by simp[jf.l0]at h
 | k+1=>by
  have ih0:=jf.mono_l k
  ·intro y0 y1 y2 y3 y4
   unfold jf.l0
   repeat' first | (with_reducible first | apply ih0 | exact LeO.refl _ | exact LeO.none _ | refine LeO.ite ?_ ?_ | refine LeO.bind ?_ (fun _=>?_)) | (first | apply ih0 | exact LeO.none _ | refine LeO.ite ?_ ?_ | refine LeO.bind ?_ (fun _=>?_))
theorem jf.mono :∀ a0 a1 a2 k,LeO (jf.f k a0 a1 a2) (jf.f (k+1) a0 a1 a2):=by
 intro a0 a1 a2 k
 have ih0:=jf.mono_l k
 unfold jf.f
 repeat' first | (with_reducible first | apply ih0 | exact LeO.refl _ | exact LeO.none _ | refine LeO.ite ?_ ?_ | refine LeO.bind ?_ (fun _=>?_)) | (first | apply ih0 | exact LeO.none _ | refine LeO.ite ?_ ?_ | refine LeO.bind ?_ (fun _=>?_))
theorem jf.calls (k:Nat) (a0:Int) (A1:Option Addr) (c1:Nat) (l1:List Int) (A2:Option Addr) (c2:Nat) (l2:List Int) (r:Int) (w:World) (hr1:Kd.C (Kd.int .i64) w A1 l1.length l1) (hc1:l1.length≤c1) (hr2:Kd.C (Kd.int .i64) w A2 l2.length l2) (hc2:l2.length≤c2) (h:jf.f k a0 l1 l2=some r):
  Calls Try.prog 124 #[.int .i64 a0,.slice A1 l1.length c1,.slice A2 l2.length c2] w fun e w'=>e=.returned (.int .i64 r)∧Drawn0 w w':=by
 have HR1:=am hr1
 have HC1:=am hc1
 clear hr1 hc1
 have HR2:=am hr2
 have HC2:=am hc2
 clear hr2 hc2
 have H:(jf.l0 k a0 l1 l2 0 0)=some r:=h
 clear h;have H':=am H;clear H
 go_enter Try.func124,Try.ntmps124
 go_wp2
 repeat (go_quiet (fail);try go_wp2)
 go_loopg [7,8] k (fun kq v7 v8 w'=>∃ (x7_1:Int) (x8_1:Int),v7=.int .i64 x7_1∧v8=.int .i64 x8_1∧qf (jf.l0 kq a0 l1 l2 x7_1 x8_1=some r)∧qf (kq≤k)∧Drawn0 w w')
 case atStart=>exact⟨(0),(0),fr,fr,H',⟨Nat.le_refl _⟩,df⟩
 case round=>
  clear H';try clear c1;try clear c2;try clear p2
  obtain⟨x7_1,x8_1,rfl,rfl,HA,HK1,⟨m1,rfl⟩⟩:=hrel
  cases gk with
  | zero=>exact absurd HA.out (by simp[jf.l0])
  | succ k1=>
   have H:=HA.out;clear HA
   simp only[jf.l0]at H
   by_cases c4:x8_1 < (l1.length:Int)
   ·rw[if_pos c4]at H
    have c4b0:=decide_eq_true c4;clear c4;replace H:=ifn H;obtain⟨c5,H⟩:=H;have c5b0:=decide_eq_true c5;clear c5;replace H:=ifn H;obtain⟨c6,H⟩:=H;have c6b0:=decide_eq_true c6;clear c6;replace H:=ifm H;obtain⟨c7,H⟩:=H
    have c7b0:=beq_eq_false_iff_ne.mpr c7;have c7b1:=bne_iff_ne.mpr c7;have H':=am H;clear H
    have p289:0≤(x8_1:Int):=od
    have q289:x8_1 < (l1.length:Int):=od
    obtain⟨ad289,e289,hx289_0⟩:=Kd.at_int HR1.out x8_1 p289 q289
    cases e289;replace p289:=eq_true p289;replace q289:=eq_true q289
    have p290:0≤(x8_1:Int):=od
    have q290:x8_1 < (l2.length:Int):=od
    obtain⟨ad290,e290,hx290_0⟩:=Kd.at_int HR2.out x8_1 p290 q290
    cases e290;replace p290:=eq_true p290;replace q290:=eq_true q290;go_wp2
    repeat (go_quiet (fail);try go_wp2)
    go_roundg k1
    case measure=>have:=HK1.out;omega
    case rel=>exact⟨(Int.tmod (wrap64 (x7_1+(wrap64 ((rd l1 x8_1)*(rd l2 x8_1))))) a0),(wrap64 (x8_1+1)),fr,fr,H',⟨by have:=HK1.out;omega⟩,df⟩
   ·rw[if_neg c4]at H
    have c4b0:=decide_eq_false c4;clear c4;obtain rfl:=Option.some.inj H;go_wp2
    repeat (go_quiet (fail);try go_wp2)
    go_ret
    exact⟨fr,df⟩
end Go.Proofs.Ytmgbpmihbljngaa.PA
