-- Written by xprint.py, a program of this claim's own (over the kit's print.py)
import Derived.Test.YtmgbpmihbljngaaPAx9
namespace Go.Proofs.Ytmgbpmihbljngaa.PA
set_option maxHeartbeats 8000000
set_option maxRecDepth 100000
open Go.RowKit Go.Proofs.YtmgbpmihbljngaaW.PrintWords Go.Proofs.YtmgbpmihbljngaaW.PrintLast Go.Proofs.YtmgbpmihbljngaaW.PrintMore
attribute [local go_sem] Qg Qj Qp Qo j4 j3 Qh Qf
set_option linter.unusedVariables false
set_option linter.unusedSimpArgs false
def qw.l0 :Nat→Int→List Int→List (S41)→Int→Int→Int→Int→Option (List Int)
 | 0,_,_,_,_,_,_,_=>none
 | k+1,x0,x5,x6,x7,x253000,x253001,x253002=>if x7 < 10 then (if 0≤x7 then (if x7 < (x6.length:Int) then ((zy.f k x0 x253000 ((zw x6 x7).f0)).bind fun t261=>((zy.f k x0 x253001 ((zw x6 x7).f1)).bind fun t262=>(if x0=0 then (none) else ((zy.f k x0 x253002 ((zw x6 x7).f2)).bind fun t263=>(if x5.length < 17592186044416 then (qw.l0 k x0 (x5++[Int.tmod (wrap64 ((Int.tmod (wrap64 (t261*t262)) x0)*t263)) x0]) x6 (wrap64 (x7+1)) x253000 x253001 x253002) else (none)))))) else (none)) else (none)) else (some x5)
def qw.f (k:Nat) (a0:Int) (a1_0:Int) (a1_1:Int) (a1_2:Int):Option (List Int):=(Qw.f).bind fun t256=>(qw.l0 k a0 (([]:List Int)) t256 0 a1_0 a1_1 a1_2)
theorem qw.mono_l :∀ k,(∀ y0 y1 y2 y3 y4 y5 y6,LeO (qw.l0 k y0 y1 y2 y3 y4 y5 y6) (qw.l0 (k+1) y0 y1 y2 y3 y4 y5 y6))
 | 0=>fun _ _ _ _ _ _ _ r h=>by simp[qw.l0]at h
 | k+1=>by
  have ih0:=qw.mono_l k
  ·intro y0 y1 y2 y3 y4 y5 y6
   unfold qw.l0
   repeat' first | (with_reducible first | apply ih0 | apply zy.mono | exact LeO.refl _ | exact LeO.none _ | refine LeO.ite ?_ ?_ | refine LeO.bind ?_ (fun _=>?_)) | (first | apply ih0 | apply zy.mono | exact LeO.none _ | refine LeO.ite ?_ ?_ | refine LeO.bind ?_ (fun _=>?_))
theorem qw.mono :∀ a0 a1 a2 a3 k,LeO (qw.f k a0 a1 a2 a3) (qw.f (k+1) a0 a1 a2 a3):=by
 intro a0 a1 a2 a3 k
 have ih0:=qw.mono_l k
 unfold qw.f
 repeat' first | (with_reducible first | apply ih0 | apply zy.mono | exact LeO.refl _ | exact LeO.none _ | refine LeO.ite ?_ ?_ | refine LeO.bind ?_ (fun _=>?_)) | (first | apply ih0 | apply zy.mono | exact LeO.none _ | refine LeO.ite ?_ ?_ | refine LeO.bind ?_ (fun _=>?_))
def qw.T7 :Bool×List (List Nat×List Nat):=(true,[([],[]),([],[]),([],[]),([2],[2]),([3],[3]),([],[]),([5],[5]),([1,4,6],[1,4,6]),([],[]),([],[]),([9],[9]),([10],[10]),([],[]),([12],[12]),([8,11,13,7],[8,11,13]),([7,14],[7,14]),([],[]),([15,16],[15,16]),([],[]),([],[]),([19],[19]),([20],[20]),([],[]),([22],[22]),([18,21,23,14],[18,21,23]),([17,24],[17,24]),([],[]),([25,26],[25,26]),([27],[27]),([0,28,24],[0,28]),([29,29,0,1,2,3,4,5,6,7,8,9,10,11,12,13,14,15,16,17,18,19,20,21,22,23,24,25,26,27,28,29],[0,29])])
def qw.B7 :List Nat:=[0,0,0,4,12,0,32,126,0,0,512,1536,0,4096,16382,32766,0,131070,0,0,524288,1572864,0,4194304,16547838,33554430,0,134217726,268435454,536870911,1073741823]
theorem qw.tab7 :rtab .any (Ju Try.f123 7)=qw.T7:=by kernel_rfl
theorem qw.bits7 :Qt qw.T7.2 qw.B7=true:=by kernel_rfl
theorem qw.calls (k:Nat) (a0:Int) (a1_0:Int) (a1_1:Int) (a1_2:Int) (r:List Int) (w:World) (h:qw.f k a0 a1_0 a1_1 a1_2=some r):
  Calls Try.prog 123 #[.int .i64 a0,.agg #[.int .i64 a1_0,.int .i64 a1_1,.int .i64 a1_2]] w fun e w'=>∃ v0_:Value,e=.returned (v0_)∧Kd.R (Kd.int .i64) 3 w' w.heap.size (fun _=>True) v0_ r∧Below w.heap.size w w':=by
 have hu43:=Try.underlying43
 have hu41:=Try.underlying41
 have HB:=am (Below.refl w.heap.size w)
 have H:((Qw.f).bind fun t256=>(qw.l0 k a0 (([]:List Int)) t256 0 a1_0 a1_1 a1_2))=some r:=h
 clear h
 generalize hy253:(([]:List Int))=y253 at H
 have Ny253:=am hy253.symm;clear hy253;replace H:=bs H;obtain⟨t256,A3,H⟩:=H;have H':=am H;clear H
 go_enter Try.func123,Try.ntmps123
 go_wp2_with (first | ((with_reducible refine q7 (N:=3) rfl ?_);refine xe_ 3 43 #[.int .i64 a1_0,.int .i64 a1_1,.int .i64 a1_2] ?_;intro gb252 hg w4 hbox hb;have BK252:=am (hbox);have GW252:=am ((by rw[hg];exact(bz HB):w.heap.size≤gb252));have GE252:=am ((by rw[hg];exact(bz HB):w.heap.size≤gb252));replace HB:=bq HB hb;clear hb hbox hg) | ((with_reducible refine q7 (N:=9) rfl ?_);refine li 3 ([]:List Int) ?_;intro v254 w5 ho6 hb;(first | rw[← Ny253.out]at ho6 | (simp only[Int.reduceToNat]at ho6;rw[← Ny253.out]at ho6));have HO255:=am (Kd.R_lower ho6 (jv (bx_ HB)));replace BK252:=am (jx (g:=gb252) (o:=.cells #[.int .i64 a1_0,.int .i64 a1_1,.int .i64 a1_2] 43 (0,0)) (pk_ BK252) hb);replace HB:=am (zp (bx_ HB) hb);clear hb ho6) | ((with_reducible refine qe (f:=157) rfl ?_);refine gl 10 Try.func157 #[] ?_;(with_reducible refine(Qw.calls  t256 _ A3.out).mono ?_);rintro e w7 ⟨v257,rfl,ho0,hb⟩;refine⟨_,rfl,?_⟩;replace HO255:=am (Kd.R_below (wR HO255) hb);have HO258:=am (Kd.R_lower ho0 (jv (bx_ HB)));replace BK252:=am (jx (g:=gb252) (o:=.cells #[.int .i64 a1_0,.int .i64 a1_1,.int .i64 a1_2] 43 (0,0)) (pk_ BK252) hb);replace HB:=am (zp (bx_ HB) hb);(try clear hb);(try clear ho0)))
 go_loopg [5,7] k (fun kq v5 v7 w'=>∃ (x5_1:List Int) (x7_1:Int),v7=.int .i64 x7_1∧qa (qw.l0 kq a0 x5_1 t256 x7_1 a1_0 a1_1 a1_2=some r)∧qa (kq≤k)∧qa (Kd.R (Kd.int .i64) 3 w' w.heap.size (fun _=>True) v5 x5_1)∧qa (Kd.R k41 41 w' w.heap.size (fun _=>True) v257 t256)∧qa (w'.heap[gb252]? =some (.cells #[.int .i64 a1_0,.int .i64 a1_1,.int .i64 a1_2] 43 (0,0)))∧qa (Below w.heap.size w w'))
 case atStart=>exact⟨(y253),(0),fr,H',⟨Nat.le_refl _⟩,⟨wR HO255⟩,⟨wR HO258⟩,⟨by (with_reducible repeat (first | refine zc ?_ _ | refine ze ?_ | refine za ?_ _));exact BK252.out⟩,⟨bx_ HB⟩⟩
 case round=>
  clear H';try clear c1;try clear p2
  obtain⟨x5_1,x7_1,rfl,HA,HK1,HO_5,HO_6,BK252,HB⟩:=hrel
  cases gk with
  | zero=>exact absurd HA.out (by simp[qw.l0])
  | succ k1=>
   have H:=HA.out;clear HA
   simp only[qw.l0]at H
   by_cases c8:x7_1 < 10
   ·rw[if_pos c8]at H
    have c8b0:=decide_eq_true c8;clear c8;replace H:=ifn H;obtain⟨c9,H⟩:=H;have c9b0:=decide_eq_true c9;clear c9;replace H:=ifn H;obtain⟨c10,H⟩:=H;have c10b0:=decide_eq_true c10;clear c10;replace H:=bs H;obtain⟨t261,A11,H⟩:=H
    replace H:=bs H;obtain⟨t262,A12,H⟩:=H;replace H:=ifm H;obtain⟨c13,H⟩:=H;have c13b0:=beq_eq_false_iff_ne.mpr c13;have c13b1:=bne_iff_ne.mpr c13;replace H:=bs H;obtain⟨t263,A14,H⟩:=H;replace H:=ifn H;obtain⟨c15,H⟩:=H
    have LMc15:=am c15;clear c15
    generalize hy264:(x5_1++[Int.tmod (wrap64 ((Int.tmod (wrap64 (t261*t262)) a0)*t263)) a0]:List Int)=y264 at H
    have Ny264:=am hy264.symm;clear hy264;have H':=am H;clear H
    obtain⟨Ao16,co16,eo16⟩:=Kd.R_slice HO_6.out
    subst eo16
    have p259:0≤(x7_1:Int):=od
    have q259:x7_1 < (t256.length:Int):=od
    obtain⟨ad259,e259,hx259_0,hx259_1,hx259_2⟩:=qkf (Kd.R_reads' HO_6.out).2.2 x7_1 p259 q259
    cases e259;replace p259:=eq_true p259;replace q259:=eq_true q259
    try go_wp2_with (first | ((with_reducible refine q7 (N:=8) rfl ?_);refine xe_ 8 41 #[.int .i64 0,.int .i64 0,.int .i64 0] ?_;intro gb260 hg w17 hbox hb;replace HO_5:=am (Kd.R_below (wR HO_5) hb);replace HO_6:=am (Kd.R_below (Kd.R_elderB (wR HO_6) gb260 (Nat.le_of_eq hg.symm)) hb);have BK260:=am (hbox);have GW260:=am ((by rw[hg];exact(jv (bx_ HB)):w.heap.size≤gb260));have GE260:=am ((by rw[hg];exact(jv (bx_ HB)):w.heap.size≤gb260));replace HB:=am (zp (bx_ HB) hb);have NB252_260:=am ((by rw[hg];exact Nat.ne_of_lt (Za (g:=gb252) (o:=.cells #[.int .i64 a1_0,.int .i64 a1_1,.int .i64 a1_2] 43 (0,0)) (pk_ BK252)):gb252≠gb260));have NB260_252:=am ((by rw[hg];exact Nat.ne_of_gt (Za (g:=gb252) (o:=.cells #[.int .i64 a1_0,.int .i64 a1_1,.int .i64 a1_2] 43 (0,0)) (pk_ BK252)):gb260≠gb252));replace BK252:=am (jx (g:=gb252) (o:=.cells #[.int .i64 a1_0,.int .i64 a1_1,.int .i64 a1_2] 43 (0,0)) (pk_ BK252) hb);clear hb hbox hg;have hnb18:=NB260_252.out;have hnc18:=NB252_260.out;have hcz19_0:w17.cell? ⟨gb260,0,none⟩=some (.int .i64 0):=(qf BK260.out 0).trans rfl;have hcz19_1:w17.cell? ⟨gb260,1,none⟩=some (.int .i64 0):=(qf BK260.out 1).trans rfl;have hcz19_2:w17.cell? ⟨gb260,2,none⟩=some (.int .i64 0):=(qf BK260.out 2).trans rfl;have hfz19_0:=qz BK260.out 0;have hfz19_1:=qz BK260.out 1;have hfz19_2:=qz BK260.out 2))
    have n0_:qa (Kd.R (Kd.int .i64) 3 (((w17.setCell ⟨gb260,0,none⟩ (.int .i64 ((zw t256 x7_1).f0))).setCell ⟨gb260,1,none⟩ (.int .i64 ((zw t256 x7_1).f1))).setCell ⟨gb260,2,none⟩ (.int .i64 ((zw t256 x7_1).f2))) w.heap.size (fun _=>True) u5 x5_1):=⟨by (with_reducible repeat (first | apply Kd.R_alloc | apply Kd.R_drewN | apply Kd.R_drew));exact Kd.R_mono (Kd.R_far (p:=⟨gb260,2,none⟩) (Kd.R_far (p:=⟨gb260,1,none⟩) (Kd.R_far (p:=⟨gb260,0,none⟩) (Kd.R_types HO_5.out BK260.out (by decide)) (fun _ hk=>hk.2) (.int .i64 ((zw t256 x7_1).f0))) (fun _ hk=>hk.2) (.int .i64 ((zw t256 x7_1).f1))) (fun _ hk=>hk.2) (.int .i64 ((zw t256 x7_1).f2))) (fun _ hk=>trivial)⟩
    have n1_:qa (Kd.R k41 41 (((w17.setCell ⟨gb260,0,none⟩ (.int .i64 ((zw t256 x7_1).f0))).setCell ⟨gb260,1,none⟩ (.int .i64 ((zw t256 x7_1).f1))).setCell ⟨gb260,2,none⟩ (.int .i64 ((zw t256 x7_1).f2))) w.heap.size (fun k_=>k_≠gb260) (.slice (some ad259) t256.length co16) t256):=⟨by (with_reducible repeat (first | apply Kd.R_alloc | apply Kd.R_drewN | apply Kd.R_drew));exact Kd.R_mono (Kd.R_far (p:=⟨gb260,2,none⟩) (Kd.R_far (p:=⟨gb260,1,none⟩) (Kd.R_far (p:=⟨gb260,0,none⟩) (Kd.R_mono HO_6.out (fun k_ hk=>(⟨hk,hk.2⟩:_∧k_≠gb260))) (fun _ hk=>hk.2) (.int .i64 ((zw t256 x7_1).f0))) (fun _ hk=>hk.2) (.int .i64 ((zw t256 x7_1).f1))) (fun _ hk=>hk.2) (.int .i64 ((zw t256 x7_1).f2))) (fun _ hk=>hk.1.2)⟩
    have n2_:qa ((((w17.setCell ⟨gb260,0,none⟩ (.int .i64 ((zw t256 x7_1).f0))).setCell ⟨gb260,1,none⟩ (.int .i64 ((zw t256 x7_1).f1))).setCell ⟨gb260,2,none⟩ (.int .i64 ((zw t256 x7_1).f2))).heap[gb252]? =some (.cells #[.int .i64 a1_0,.int .i64 a1_1,.int .i64 a1_2] 43 (0,0))):=⟨by (with_reducible repeat (first | refine zc ?_ _ | refine ze ?_ | refine za ?_ _));refine Zh ?_ NB252_260.out _;(with_reducible repeat (first | refine zc ?_ _ | refine ze ?_ | refine za ?_ _));refine Zh ?_ NB252_260.out _;(with_reducible repeat (first | refine zc ?_ _ | refine ze ?_ | refine za ?_ _));refine Zh ?_ NB252_260.out _;(with_reducible repeat (first | refine zc ?_ _ | refine ze ?_ | refine za ?_ _));exact BK252.out⟩
    have n3_:qa ((((w17.setCell ⟨gb260,0,none⟩ (.int .i64 ((zw t256 x7_1).f0))).setCell ⟨gb260,1,none⟩ (.int .i64 ((zw t256 x7_1).f1))).setCell ⟨gb260,2,none⟩ (.int .i64 ((zw t256 x7_1).f2))).heap[gb260]? =some (.cells #[.int .i64 ((zw t256 x7_1).f0),.int .i64 ((zw t256 x7_1).f1),.int .i64 ((zw t256 x7_1).f2)] 41 (0,0))):=⟨by (with_reducible repeat (first | refine zc ?_ _ | refine ze ?_ | refine za ?_ _));refine Ql (cs:=#[.int .i64 ((zw t256 x7_1).f0),.int .i64 ((zw t256 x7_1).f1),.int .i64 0]) ?_ 2 _ rfl;(with_reducible repeat (first | refine zc ?_ _ | refine ze ?_ | refine za ?_ _));refine Ql (cs:=#[.int .i64 ((zw t256 x7_1).f0),.int .i64 0,.int .i64 0]) ?_ 1 _ rfl;(with_reducible repeat (first | refine zc ?_ _ | refine ze ?_ | refine za ?_ _));refine Ql (cs:=#[.int .i64 0,.int .i64 0,.int .i64 0]) ?_ 0 _ rfl;(with_reducible repeat (first | refine zc ?_ _ | refine ze ?_ | refine za ?_ _));exact BK260.out⟩
    have n4_:qa (Below w.heap.size w (((w17.setCell ⟨gb260,0,none⟩ (.int .i64 ((zw t256 x7_1).f0))).setCell ⟨gb260,1,none⟩ (.int .i64 ((zw t256 x7_1).f1))).setCell ⟨gb260,2,none⟩ (.int .i64 ((zw t256 x7_1).f2)))):=⟨bx_ HB⟩
    (try clear HO_5)
    (try clear HO_6)
    (try clear BK252)
    (try clear BK260)
    (try clear HB)
    generalize (((w17.setCell ⟨gb260,0,none⟩ (.int .i64 ((zw t256 x7_1).f0))).setCell ⟨gb260,1,none⟩ (.int .i64 ((zw t256 x7_1).f1))).setCell ⟨gb260,2,none⟩ (.int .i64 ((zw t256 x7_1).f2)))=w20 at n0_ n1_ n2_ n3_ n4_ ⊢
    have HO_5:=n0_
    have HO_6:=n1_
    have BK252:=n2_
    have BK260:=n3_
    have HB:=n4_
    clear n0_ n1_ n2_ n3_ n4_
    replace HO_5:=am (Kd.R_drew HO_5.out)
    replace HO_6:=am (Kd.R_drew HO_6.out)
    replace BK252:=am (ze BK252.out)
    replace BK260:=am (ze BK260.out)
    replace HB:=am (qv HB.out)
    refine st 31 (fun w'=>w'.cell? ⟨gb252,0,none⟩=some (.int .i64 a1_0)∧w'.cell? ⟨gb252,1,none⟩=some (.int .i64 a1_1)∧w'.cell? ⟨gb252,2,none⟩=some (.int .i64 a1_2)∧w'.cell? ⟨gb260,0,none⟩=some (.int .i64 ((zw t256 x7_1).f0))∧w'.cell? ⟨gb260,1,none⟩=some (.int .i64 ((zw t256 x7_1).f1))∧w'.cell? ⟨gb260,2,none⟩=some (.int .i64 ((zw t256 x7_1).f2))) [] qw.tab7 qw.bits7 (⟨(qf BK252.out 0).trans rfl,(qf BK252.out 1).trans rfl,(qf BK252.out 2).trans rfl,(qf BK260.out 0).trans rfl,(qf BK260.out 1).trans rfl,(qf BK260.out 2).trans rfl⟩) fun hHeld HT_ HW_=>?_
    generalize w20.drew=w21 at HO_5 HO_6 BK252 BK260 HB hHeld ⊢
    refine pz 0 19 HT_ ?_;refine pz 1 20 HT_ ?_;refine pz 2 21 HT_ ?_;refine pz 3 22 HT_ ?_;refine pz 5 24 HT_ ?_;refine pz 8 27 HT_ ?_;refine pz 9 28 HT_ ?_;refine pz 10 29 HT_ ?_;refine pz 12 31 HT_ ?_;refine pz 16 35 HT_ ?_;refine pz 18 37 HT_ ?_
    refine pz 19 38 HT_ ?_;refine pz 20 39 HT_ ?_;refine pz 22 41 HT_ ?_;refine pz 26 45 HT_ ?_;refine tk 4 23 HT_ HW_ hHeld ?_;refine tk 6 25 HT_ HW_ hHeld ?_;refine tk 11 30 HT_ HW_ hHeld ?_;refine tk 13 32 HT_ HW_ hHeld ?_;refine tk 21 40 HT_ HW_ hHeld ?_
    refine tk 23 42 HT_ HW_ hHeld ?_
    refine on 7 (some 26) HT_ fun K hK=>?_
    refine gs_ Try.func162 #[.int .i64 a0,.int .i64 a1_0,.int .i64 ((zw t256 x7_1).f0)] ?_
    with_reducible refine(zy.calls k1 a0 a1_0 ((zw t256 x7_1).f0) t261 _ A11.out).mono ?_
    rintro e w' ⟨rfl,⟨nd,rfl⟩⟩
    refine⟨_,rfl,?_⟩
    refine hK.out _ _ ⟨(qf BK252.out 0).trans rfl,(qf BK252.out 1).trans rfl,(qf BK252.out 2).trans rfl,(qf BK260.out 0).trans rfl,(qf BK260.out 1).trans rfl,(qf BK260.out 2).trans rfl⟩ fun hHeld=>nz ?_
    clear hK K
    refine on 14 (some 33) HT_ fun K hK=>?_
    refine gs_ Try.func162 #[.int .i64 a0,.int .i64 a1_1,.int .i64 ((zw t256 x7_1).f1)] ?_
    with_reducible refine(zy.calls k1 a0 a1_1 ((zw t256 x7_1).f1) t262 _ A12.out).mono ?_
    rintro e w' ⟨rfl,⟨nd,rfl⟩⟩
    refine⟨_,rfl,?_⟩
    refine hK.out _ _ ⟨(qf BK252.out 0).trans rfl,(qf BK252.out 1).trans rfl,(qf BK252.out 2).trans rfl,(qf BK260.out 0).trans rfl,(qf BK260.out 1).trans rfl,(qf BK260.out 2).trans rfl⟩ fun hHeld=>nz ?_
    clear hK K;refine pz 15 34 HT_ ?_;refine pz 17 36 HT_ ?_
    refine on 24 (some 43) HT_ fun K hK=>?_
    refine gs_ Try.func162 #[.int .i64 a0,.int .i64 a1_2,.int .i64 ((zw t256 x7_1).f2)] ?_
    with_reducible refine(zy.calls k1 a0 a1_2 ((zw t256 x7_1).f2) t263 _ A14.out).mono ?_
    rintro e w' ⟨rfl,⟨nd,rfl⟩⟩
    refine⟨_,rfl,?_⟩
    refine hK.out _ _ ⟨(qf BK252.out 0).trans rfl,(qf BK252.out 1).trans rfl,(qf BK252.out 2).trans rfl,(qf BK260.out 0).trans rfl,(qf BK260.out 1).trans rfl,(qf BK260.out 2).trans rfl⟩ fun hHeld=>nz ?_
    clear hK K;refine pz 25 44 HT_ ?_;refine pz 27 46 HT_ ?_
    refine on 28 (some 47) HT_ fun K hK=>?_
    refine qfo (w1:=?_) (v:=?_) (by rfl) rfl ?_ ?_
    rotate_left 2
    ·go_simp
     constructor
     ·rfl
     ·rfl
    refine hK.out _ _ ⟨(qf (za BK252.out _) 0).trans rfl,(qf (za BK252.out _) 1).trans rfl,(qf (za BK252.out _) 2).trans rfl,(qf (za BK260.out _) 0).trans rfl,(qf (za BK260.out _) 1).trans rfl,(qf (za BK260.out _) 2).trans rfl⟩ fun hHeld=>nz ?_
    clear hK K
    refine on 29 (some 48) HT_ fun K hK=>?_
    refine Kd.R_append_step (Kd.int .i64) (w0:=w) w.heap.size (by rfl) (.tmp 19) (.tmp 47) 23 3 (.int .i64 0) 8 rfl Try.underlying23 Q1 rfl (by decide) (by omega) u5 x5_1 (Int.tmod (wrap64 ((Int.tmod (wrap64 (t261*t262)) a0)*t263)) a0) [.int .i64 (Int.tmod (wrap64 ((Int.tmod (wrap64 (t261*t262)) a0)*t263)) a0)] (fun _=>True) (fun _=>False) rfl rfl ?aP (fun _ hk=>hk.elim) ?aF ?aO ?aB ?aS ?aL ?_
    (case aP=>exact rfl)
    (case aB=>exact(bx_ HB))
    (case aF=>exact(fun _ _=>trivial))
    (case aO=>exact(wR HO_5))
    (case aS=>exact(jv (bx_ HB)))
    (case aL=>have:=LMc15.out;omega)
    intro v265 w22 ho hb hg hat
    rw[← Ny264.out]at ho
    replace HO_6:=am (Kd.R_over' (wR HO_6) (Kd.R_typed (wR HO_5)) (by decide) hg)
    replace BK252:=am (Zg (g:=gb252) (o:=.cells #[.int .i64 a1_0,.int .i64 a1_1,.int .i64 a1_2] 43 (0,0)) (pk_ BK252) hg (Kd.R_ne HO_5.out BK252.out (by decide)))
    replace BK260:=am (Zg (g:=gb260) (o:=.cells #[.int .i64 ((zw t256 x7_1).f0),.int .i64 ((zw t256 x7_1).f1),.int .i64 ((zw t256 x7_1).f2)] 41 (0,0)) (pk_ BK260) hg (Kd.R_ne HO_5.out BK260.out (by decide)))
    replace HB:=am (hb)
    have HO266:=am (ho)
    clear HO_5;clear ho hb hg hat
    refine hK.out _ _ ⟨(qf BK252.out 0).trans rfl,(qf BK252.out 1).trans rfl,(qf BK252.out 2).trans rfl,(qf BK260.out 0).trans rfl,(qf BK260.out 1).trans rfl,(qf BK260.out 2).trans rfl⟩ fun hHeld=>nz ?_
    clear hK K;refine pz 30 5 HT_ ?_
    refine Zo (Qz HT_.out (by kernel_rfl)) ?_
    try go_wp2
    go_roundg k1
    case measure=>have:=HK1.out;omega
    case rel=>exact⟨(y264),(wrap64 (x7_1+1)),fr,H',⟨by have:=HK1.out;omega⟩,⟨wR HO266⟩,⟨Kd.R_below (Kd.R_mono HO_6.out (fun _ hk=>trivial)) gs⟩,⟨by (with_reducible repeat (first | refine zc ?_ _ | refine ze ?_ | refine za ?_ _));exact BK252.out⟩,⟨bx_ HB⟩⟩
   ·rw[if_neg c8]at H
    have c8b0:=decide_eq_false c8;clear c8;obtain rfl:=Option.some.inj H;go_wp2;go_ret
    exact⟨_,fq,wR HO_5,bx_ HB⟩
def zl.l0 :Nat→Int→List (S43)→List (List Int)→Int→Option ((List (List Int)))
 | 0,_,_,_,_=>none
 | k+1,x0,x1,x5,x6=>if x6 < 6 then (if 0≤x6 then (if x6 < (x1.length:Int) then ((qw.f k x0 ((q4 x1 x6).f0.f0) ((q4 x1 x6).f0.f1) ((q4 x1 x6).f0.f2)).bind fun t271=>(if x5.length < 5864062014805 then (zl.l0 k x0 x1 (x5++[t271]) (wrap64 (x6+1))) else (none))) else (none)) else (none)) else ((qm.f k x0 x5 10).bind fun t277=>(some t277))
def zl.f (k:Nat) (a0:Int) (l1:List (S43)):Option ((List (List Int))):=zl.l0 k a0 l1 (([]:List (List Int))) 0
theorem zl.mono_l :∀ k,(∀ y0 y1 y2 y3,LeO (zl.l0 k y0 y1 y2 y3) (zl.l0 (k+1) y0 y1 y2 y3))
 | 0=>fun _ _ _ _ r h=>by simp[zl.l0]at h
 | k+1=>by
  have ih0:=zl.mono_l k
  ·intro y0 y1 y2 y3
   unfold zl.l0
   repeat' first | (with_reducible first | apply ih0 | apply qm.mono | apply qw.mono | exact LeO.refl _ | exact LeO.none _ | refine LeO.ite ?_ ?_ | refine LeO.bind ?_ (fun _=>?_)) | (first | apply ih0 | apply qm.mono | apply qw.mono | exact LeO.none _ | refine LeO.ite ?_ ?_ | refine LeO.bind ?_ (fun _=>?_))
theorem zl.mono :∀ a0 a1 k,LeO (zl.f k a0 a1) (zl.f (k+1) a0 a1):=by
 intro a0 a1 k
 have ih0:=zl.mono_l k
 unfold zl.f
 repeat' first | (with_reducible first | apply ih0 | apply qm.mono | apply qw.mono | exact LeO.refl _ | exact LeO.none _ | refine LeO.ite ?_ ?_ | refine LeO.bind ?_ (fun _=>?_)) | (first | apply ih0 | apply qm.mono | apply qw.mono | exact LeO.none _ | refine LeO.ite ?_ ?_ | refine LeO.bind ?_ (fun _=>?_))
theorem zl.calls (k:Nat) (a0:Int) (A1:Option Addr) (c1:Nat) (l1:List (S43)) (r:List (List Int)) (w:World) (hr1:Kd.C k43 w A1 l1.length l1) (hc1:l1.length≤c1) (h:zl.f k a0 l1=some r):
  Calls Try.prog 78 #[.int .i64 a0,.slice A1 l1.length c1] w fun e w'=>∃ v0_:Value,e=.returned (v0_)∧Kd.N (Kd.slice 3 (Kd.int .i64)) 23 w' w.heap.size (fun k_=>(w.heap.size≤k_)) v0_ r∧Below w.heap.size w w':=by
 have hu43:=Try.underlying43
 have HR1:=am hr1
 have HC1:=am hc1
 clear hr1 hc1
 have HB:=am (Below.refl w.heap.size w)
 have H:(zl.l0 k a0 l1 (([]:List (List Int))) 0)=some r:=h
 clear h
 generalize hy267:(([]:List (List Int)))=y267 at H
 have Ny267:=am hy267.symm;clear hy267;have H':=am H;clear H
 go_enter Try.func78,Try.ntmps78
 go_wp2_with (first | ((with_reducible refine q7 (N:=7) rfl ?_);refine Kd.N_lit (Kd.slice 3 (Kd.int .i64)) _ 23 ?hg (N':=7) ?hd (xs:=([]:List (List Int))) (inner:=[]) (ok:=(fun k_=>(w.heap.size≤k_))) (okp:=(fun k_=>(w.heap.size≤k_))) ?hr ?hp (fun _ hk=>hk) ((show ∀ k_,w.heap.size≤k_→(fun k_=>(w.heap.size≤k_)) k_ from fun k_ hk=>(Nat.le_trans (bz HB) hk)) _ (Nat.le_refl _)) (Below.refl _ _) (Nat.le_refl _) (by simp) ?_;(case hd=>rfl);(case hg=>rfl);(case hr=>first | (go_simp;done) | (go_simp;rfl));(case hp=>exact(Reps.none _ _));intro v268 w3 ho4 hb hg_ hnew_;clear hg_ hnew_;(first | rw[← Ny267.out]at ho4 | (simp only[Int.reduceToNat]at ho4;rw[← Ny267.out]at ho4));have HO269:=am (Kd.N_lower ho4 (bz HB));replace HB:=bq HB hb;clear hb ho4))
 go_loopg [5,6] k (fun kq v5 v6 w'=>∃ (x5_1:List (List Int)) (x6_1:Int),v6=.int .i64 x6_1∧qa (zl.l0 kq a0 l1 x5_1 x6_1=some r)∧qa (kq≤k)∧qa (Kd.N (Kd.slice 3 (Kd.int .i64)) 23 w' w.heap.size (fun k_=>(w.heap.size≤k_)) v5 x5_1)∧qa (Below w.heap.size w w'))
 case atStart=>exact⟨(y267),(0),fr,H',⟨Nat.le_refl _⟩,⟨wN HO269⟩,⟨bw HB⟩⟩
 case round=>
  clear H';try clear c1;try clear p2
  obtain⟨x5_1,x6_1,rfl,HA,HK1,HO_5,HB⟩:=hrel
  cases gk with
  | zero=>exact absurd HA.out (by simp[zl.l0])
  | succ k1=>
   have H:=HA.out;clear HA
   simp only[zl.l0]at H
   by_cases c5:x6_1 < 6
   ·rw[if_pos c5]at H
    have c5b0:=decide_eq_true c5;clear c5;replace H:=ifn H;obtain⟨c6,H⟩:=H;have c6b0:=decide_eq_true c6;clear c6;replace H:=ifn H;obtain⟨c7,H⟩:=H;have c7b0:=decide_eq_true c7;clear c7;replace H:=bs H;obtain⟨t271,A8,H⟩:=H
    replace H:=ifn H;obtain⟨c9,H⟩:=H;have LMc9:=am c9;clear c9
    generalize hy274:(x5_1++[t271]:List (List Int))=y274 at H
    have Ny274:=am hy274.symm;clear hy274;have H':=am H;clear H
    have p270:0≤(x6_1:Int):=od
    have q270:x6_1 < (l1.length:Int):=od
    obtain⟨ad270,e270,hx270_0,hx270_1,hx270_2⟩:=Zw HR1.out x6_1 p270 q270
    cases e270
    replace hx270_0:=wcl HB hx270_0
    replace hx270_1:=wcl HB hx270_1
    replace hx270_2:=wcl HB hx270_2
    replace p270:=eq_true p270;replace q270:=eq_true q270
    go_wp2_with (first | ((with_reducible refine qe (f:=123) rfl ?_);refine gl 18 Try.func123 #[.int .i64 a0,.agg #[.int .i64 ((q4 l1 x6_1).f0.f0),.int .i64 ((q4 l1 x6_1).f0.f1),.int .i64 ((q4 l1 x6_1).f0.f2)]] ?_;(with_reducible refine(qw.calls k1 a0 ((q4 l1 x6_1).f0.f0) ((q4 l1 x6_1).f0.f1) ((q4 l1 x6_1).f0.f2) t271 _ A8.out).mono ?_);rintro e w10 ⟨v272,rfl,ho0,hb⟩;refine⟨_,rfl,?_⟩;replace HO_5:=eN HO_5 (Kd.R_base ho0) hb;have HO273:=am (mR ho0 HB);replace HB:=bq HB hb;(try clear hb);(try clear ho0);obtain⟨Ao12,co12,eo12⟩:=Kd.R_slice HO273.out;subst eo12) | ((with_reducible refine ji (b:=.append) (xs:=#[.tmp 12,.tmp 19]) rfl ?_);at_builtin;refine Kd.N_append (Kd.slice 3 (Kd.int .i64)) (w0:=w) w.heap.size rfl (.tmp 12) (.tmp 19) 47 23 (.slice none 0 0) 24 rfl Try.underlying47 Jj rfl (by decide) (by omega) u5 x5_1 t271 [.slice Ao12 t271.length co12] (fun k_=>(w.heap.size≤k_)) (fun k_=>((fun k_=>(w.heap.size≤k_))) k_∧some k_≠(u5:Value).ownBlock) rfl rfl ?aP (fun _ hk=>hk) ?aF ?aO ?aB ?aS ?aL ?_;(case aP=>exact(Kd.FK_slice_mk (Kd.R_reads' (Kd.R_mono (ok':=(fun k_=>((fun k_=>(w.heap.size≤k_))) k_∧some k_≠(u5:Value).ownBlock)) (Kd.R_apart' (HO273.out) (Kd.N_typed HO_5.out) (by decide)) (fun k_ hk=>⟨hk.1.1,hk.2⟩))).2.1 (Kd.R_F (Kd.R_mono (ok':=(fun k_=>((fun k_=>(w.heap.size≤k_))) k_∧some k_≠(u5:Value).ownBlock)) (Kd.R_apart' (HO273.out) (Kd.N_typed HO_5.out) (by decide)) (fun k_ hk=>⟨hk.1.1,hk.2⟩)))));(case aB=>exact(bw HB));(case aF=>exact(fun k_ hk=>(Nat.le_trans (bz HB) hk)));(case aO=>exact(oN_ HO_5 (fun _ hk=>hk.1)));(case aS=>exact(bz HB));(case aL=>have:=LMc9.out;omega);intro v275 w11 ho hb hg hat;rw[← Ny274.out]at ho;replace HB:=am (hb);have HO276:=am (ho);clear HO_5 HO273;clear ho hb hg hat))
    go_roundg k1
    case measure=>have:=HK1.out;omega
    case rel=>exact⟨(y274),(wrap64 (x6_1+1)),fr,H',⟨by have:=HK1.out;omega⟩,⟨wN HO276⟩,⟨bw HB⟩⟩
   ·rw[if_neg c5]at H
    have c5b0:=decide_eq_false c5;clear c5;replace H:=bs H;obtain⟨t277,A13,H⟩:=H;obtain rfl:=Option.some.inj H
    obtain⟨Ao14,co14,eo14⟩:=Kd.N_slice HO_5.out
    subst eo14
    go_wp2_with (first | ((with_reducible refine qe (f:=109) rfl ?_);refine gl 23 Try.func109 #[.int .i64 a0,.slice Ao14 x5_1.length co14,.int .i64 10] ?_;(with_reducible refine(qm.calls k1 a0 (fun k_=>(w.heap.size≤k_)) _ _ x5_1 10 t277 _ ?_ A13.out).mono ?_);exact Kd.N_V (HO_5.out);rintro e w15 ⟨v278,rfl,ho0,hb⟩;refine⟨_,rfl,?_⟩;replace HO_5:=eN HO_5 (Kd.N_base ho0) hb;have HO279:=am (Kd.N_lower (Kd.N_mono (ok':=fun k_=>(w.heap.size≤k_)) ho0 (fun k_ hk_=>Or.elim hk_ (fun hs_=>hs_) (fun hn_=>(Nat.le_trans (bz HB) hn_)))) (bz HB));replace HB:=bq HB hb;(try clear hb);(try clear ho0)))
    go_ret
    exact⟨_,fq,wN HO279,bw HB⟩
end Go.Proofs.Ytmgbpmihbljngaa.PA
