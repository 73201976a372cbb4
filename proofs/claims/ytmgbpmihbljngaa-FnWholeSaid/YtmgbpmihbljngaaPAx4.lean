-- Written by xprint.py, a program of this claim's own (over the kit's print.py)
import Derived.Test.YtmgbpmihbljngaaPAx3
namespace Go.Proofs.Ytmgbpmihbljngaa.PA
set_option maxHeartbeats 8000000
set_option maxRecDepth 100000
open Go.RowKit Go.Proofs.YtmgbpmihbljngaaW.PrintWords Go.Proofs.YtmgbpmihbljngaaW.PrintLast Go.Proofs.YtmgbpmihbljngaaW.PrintMore
attribute [local go_sem] Qg Qj Qp Qo j4 j3 Qh Qf
set_option linter.unusedVariables false
set_option linter.unusedSimpArgs false
def Qd.f (a0:Int) (a1_0:Int) (a1_1:Int) (a1_2:Int) (a2_0:Int) (a2_1:Int) (a2_2:Int):Option (List Int):=(jy.f a0 (wrap64 ((wrap64 (a1_1*a2_2)) - (wrap64 (a1_2*a2_1))))).bind fun t135=>((jy.f a0 (wrap64 ((wrap64 (a1_2*a2_0)) - (wrap64 (a1_0*a2_2))))).bind fun t136=>((jy.f a0 (wrap64 ((wrap64 (a1_0*a2_1)) - (wrap64 (a1_1*a2_0))))).bind fun t137=>(some (([t135,t136,t137]:List Int)))))
def Qd.T1 :Bool×List (List Nat×List Nat):=(true,[([],[]),([],[]),([1],[1]),([2],[2]),([],[]),([4],[4]),([5],[5]),([3,6],[3,6]),([],[]),([8],[8]),([9],[9]),([],[]),([11],[11]),([12],[12]),([10,13],[10,13]),([7,14],[7,14]),([0,15],[0,15]),([],[]),([],[]),([18],[18]),([19],[19]),([],[]),([21],[21]),([22],[22]),([20,23],[20,23]),([],[]),([25],[25]),([26],[26]),([],[]),([28],[28]),([29],[29]),([27,30],[27,30]),([24,31],[24,31]),([17,32,16],[17,32]),([],[]),([],[]),([35],[35]),([36],[36]),([],[]),([38],[38]),([39],[39]),([37,40],[37,40]),([],[]),([42],[42]),([43],[43]),([],[]),([45],[45]),([46],[46]),([44,47],[44,47]),([41,48],[41,48]),([34,49,33],[34,49]),([16,33,50],[16,33,50]),([51,50,0,1,2,3,4,5,6,7,8,9,10,11,12,13,14,15,16,17,18,19,20,21,22,23,24,25,26,27,28,29,30,31,32,33,34,35,36,37,38,39,40,41,42,43,44,45,46,47,48,49,50,51],[51])])
def Qd.B1 :List Nat:=[0,0,2,6,0,16,48,126,0,256,768,0,2048,6144,16128,32766,65535,0,0,262144,786432,0,2097152,6291456,16515072,0,33554432,100663296,0,268435456,805306368,2113929216,4294705152,8589934591,0,0,34359738368,103079215104,0,274877906944,824633720832,2164663517184,0,4398046511104,13194139533312,0,35184372088832,105553116266496,277076930199552,562915593682944,1125899906842623,2251799813685247,4503599627370495]
theorem Qd.tab1 :rtab .any (Ju Try.f130 1)=Qd.T1:=by kernel_rfl
theorem Qd.bits1 :Qt Qd.T1.2 Qd.B1=true:=by kernel_rfl
theorem Qd.calls (a0:Int) (a1_0:Int) (a1_1:Int) (a1_2:Int) (a2_0:Int) (a2_1:Int) (a2_2:Int) (r:List Int) (w:World) (h:Qd.f a0 a1_0 a1_1 a1_2 a2_0 a2_1 a2_2=some r):
  Calls Try.prog 130 #[.int .i64 a0,.agg #[.int .i64 a1_0,.int .i64 a1_1,.int .i64 a1_2],.agg #[.int .i64 a2_0,.int .i64 a2_1,.int .i64 a2_2]] w fun e w'=>∃ v0_:Value,e=.returned (v0_)∧Kd.R (Kd.int .i64) 3 w' w.heap.size (fun _=>True) v0_ r∧Below w.heap.size w w':=by
 have hu43:=Try.underlying43
 have HB:=am (Below.refl w.heap.size w)
 have H:((jy.f a0 (wrap64 ((wrap64 (a1_1*a2_2)) - (wrap64 (a1_2*a2_1))))).bind fun t135=>((jy.f a0 (wrap64 ((wrap64 (a1_2*a2_0)) - (wrap64 (a1_0*a2_2))))).bind fun t136=>((jy.f a0 (wrap64 ((wrap64 (a1_0*a2_1)) - (wrap64 (a1_1*a2_0))))).bind fun t137=>(some (([t135,t136,t137]:List Int))))))=some r:=h
 clear h;replace H:=bs H;obtain⟨t135,A4,H⟩:=H;replace H:=bs H;obtain⟨t136,A5,H⟩:=H;replace H:=bs H;obtain⟨t137,A6,H⟩:=H
 generalize hy138:(([t135,t136,t137]:List Int))=y138 at H
 have Ny138:=am hy138.symm;clear hy138;obtain rfl:=Option.some.inj H
 go_enter Try.func130,Try.ntmps130
 try go_wp2_with (first | ((with_reducible refine q7 (N:=4) rfl ?_);refine xe_ 4 43 #[.int .i64 a1_0,.int .i64 a1_1,.int .i64 a1_2] ?_;intro gb133 hg w7 hbox hb;have BK133:=am (hbox);have GW133:=am ((by rw[hg];exact(bz HB):w.heap.size≤gb133));have GE133:=am ((by rw[hg];exact(bz HB):w.heap.size≤gb133));replace HB:=bq HB hb;clear hb hbox hg) | ((with_reducible refine q7 (N:=5) rfl ?_);refine xe_ 5 43 #[.int .i64 a2_0,.int .i64 a2_1,.int .i64 a2_2] ?_;intro gb134 hg w8 hbox hb;have BK134:=am (hbox);have GW134:=am ((by rw[hg];exact(jv (bx_ HB)):w.heap.size≤gb134));have GE134:=am ((by rw[hg];exact(jv (bx_ HB)):w.heap.size≤gb134));replace HB:=am (zp (bx_ HB) hb);have NB133_134:=am ((by rw[hg];exact Nat.ne_of_lt (Za (g:=gb133) (o:=.cells #[.int .i64 a1_0,.int .i64 a1_1,.int .i64 a1_2] 43 (0,0)) (pk_ BK133)):gb133≠gb134));have NB134_133:=am ((by rw[hg];exact Nat.ne_of_gt (Za (g:=gb133) (o:=.cells #[.int .i64 a1_0,.int .i64 a1_1,.int .i64 a1_2] 43 (0,0)) (pk_ BK133)):gb134≠gb133));replace BK133:=am (jx (g:=gb133) (o:=.cells #[.int .i64 a1_0,.int .i64 a1_1,.int .i64 a1_2] 43 (0,0)) (pk_ BK133) hb);clear hb hbox hg))
 replace BK133:=am (ze BK133.out)
 replace BK134:=am (ze BK134.out)
 replace HB:=am (qv HB.out)
 refine st 53 (fun w'=>w'.cell? ⟨gb133,0,none⟩=some (.int .i64 a1_0)∧w'.cell? ⟨gb133,1,none⟩=some (.int .i64 a1_1)∧w'.cell? ⟨gb133,2,none⟩=some (.int .i64 a1_2)∧w'.cell? ⟨gb134,0,none⟩=some (.int .i64 a2_0)∧w'.cell? ⟨gb134,1,none⟩=some (.int .i64 a2_1)∧w'.cell? ⟨gb134,2,none⟩=some (.int .i64 a2_2)) [] Qd.tab1 Qd.bits1 (⟨(qf BK133.out 0).trans rfl,(qf BK133.out 1).trans rfl,(qf BK133.out 2).trans rfl,(qf BK134.out 0).trans rfl,(qf BK134.out 1).trans rfl,(qf BK134.out 2).trans rfl⟩) fun hHeld HT_ HW_=>?_
 generalize w8.drew=w9 at BK133 BK134 HB hHeld ⊢
 refine pz 0 7 HT_ ?_;refine pz 1 8 HT_ ?_;refine pz 2 9 HT_ ?_;refine pz 4 11 HT_ ?_;refine pz 5 12 HT_ ?_;refine pz 8 15 HT_ ?_;refine pz 9 16 HT_ ?_;refine pz 11 18 HT_ ?_;refine pz 12 19 HT_ ?_;refine pz 17 24 HT_ ?_;refine pz 18 25 HT_ ?_
 refine pz 19 26 HT_ ?_;refine pz 21 28 HT_ ?_;refine pz 22 29 HT_ ?_;refine pz 25 32 HT_ ?_;refine pz 26 33 HT_ ?_;refine pz 28 35 HT_ ?_;refine pz 29 36 HT_ ?_;refine pz 34 41 HT_ ?_;refine pz 35 42 HT_ ?_;refine pz 36 43 HT_ ?_;refine pz 38 45 HT_ ?_
 refine pz 39 46 HT_ ?_;refine pz 42 49 HT_ ?_;refine pz 43 50 HT_ ?_;refine pz 45 52 HT_ ?_;refine pz 46 53 HT_ ?_;refine tk 3 10 HT_ HW_ hHeld ?_;refine tk 6 13 HT_ HW_ hHeld ?_;refine pz 7 14 HT_ ?_;refine tk 10 17 HT_ HW_ hHeld ?_
 refine tk 13 20 HT_ HW_ hHeld ?_;refine pz 14 21 HT_ ?_;refine pz 15 22 HT_ ?_;refine tk 20 27 HT_ HW_ hHeld ?_;refine tk 23 30 HT_ HW_ hHeld ?_;refine pz 24 31 HT_ ?_;refine tk 27 34 HT_ HW_ hHeld ?_;refine tk 30 37 HT_ HW_ hHeld ?_
 refine pz 31 38 HT_ ?_;refine pz 32 39 HT_ ?_;refine tk 37 44 HT_ HW_ hHeld ?_;refine tk 40 47 HT_ HW_ hHeld ?_;refine pz 41 48 HT_ ?_;refine tk 44 51 HT_ HW_ hHeld ?_;refine tk 47 54 HT_ HW_ hHeld ?_;refine pz 48 55 HT_ ?_;refine pz 49 56 HT_ ?_
 refine on 16 (some 23) HT_ fun K hK=>?_
 refine gs_ Try.func158 #[.int .i64 a0,.int .i64 (wrap64 ((wrap64 (a1_1*a2_2)) - (wrap64 (a1_2*a2_1))))] ?_
 with_reducible refine(jy.calls a0 (wrap64 ((wrap64 (a1_1*a2_2)) - (wrap64 (a1_2*a2_1)))) t135 _ A4.out).mono ?_
 rintro e w' ⟨rfl,⟨nd,rfl⟩⟩
 refine⟨_,rfl,?_⟩
 refine hK.out _ _ ⟨(qf BK133.out 0).trans rfl,(qf BK133.out 1).trans rfl,(qf BK133.out 2).trans rfl,(qf BK134.out 0).trans rfl,(qf BK134.out 1).trans rfl,(qf BK134.out 2).trans rfl⟩ fun hHeld=>nz ?_
 clear hK K
 refine on 33 (some 40) HT_ fun K hK=>?_
 refine gs_ Try.func158 #[.int .i64 a0,.int .i64 (wrap64 ((wrap64 (a1_2*a2_0)) - (wrap64 (a1_0*a2_2))))] ?_
 with_reducible refine(jy.calls a0 (wrap64 ((wrap64 (a1_2*a2_0)) - (wrap64 (a1_0*a2_2)))) t136 _ A5.out).mono ?_
 rintro e w' ⟨rfl,⟨nd,rfl⟩⟩
 refine⟨_,rfl,?_⟩
 refine hK.out _ _ ⟨(qf BK133.out 0).trans rfl,(qf BK133.out 1).trans rfl,(qf BK133.out 2).trans rfl,(qf BK134.out 0).trans rfl,(qf BK134.out 1).trans rfl,(qf BK134.out 2).trans rfl⟩ fun hHeld=>nz ?_
 clear hK K
 refine on 50 (some 57) HT_ fun K hK=>?_
 refine gs_ Try.func158 #[.int .i64 a0,.int .i64 (wrap64 ((wrap64 (a1_0*a2_1)) - (wrap64 (a1_1*a2_0))))] ?_
 with_reducible refine(jy.calls a0 (wrap64 ((wrap64 (a1_0*a2_1)) - (wrap64 (a1_1*a2_0)))) t137 _ A6.out).mono ?_
 rintro e w' ⟨rfl,⟨nd,rfl⟩⟩
 refine⟨_,rfl,?_⟩
 refine hK.out _ _ ⟨(qf BK133.out 0).trans rfl,(qf BK133.out 1).trans rfl,(qf BK133.out 2).trans rfl,(qf BK134.out 0).trans rfl,(qf BK134.out 1).trans rfl,(qf BK134.out 2).trans rfl⟩ fun hHeld=>nz ?_
 clear hK K
 refine on 51 (some 58) HT_ fun K hK=>?_
 refine Kd.R_lit_step (Kd.int .i64) _ 3 ?hg (N:=58) ?hd (xs:=([t135,t136,t137]:List Int)) (inner:=[.int .i64 t135,.int .i64 t136,.int .i64 t137]) (ok:=fun _=>True) (okp:=fun _=>True) ?hr ?hp (fun _ hk=>hk) trivial (Below.refl _ _) (Nat.le_refl _) (by simp) ?_;(case hd=>rfl);(case hg=>rfl);(case hr=>first | (go_simp;done) | (go_simp;rfl));(case hp=>exact(Reps.one (show Kd.M (Kd.int .i64) _ _ _ t135 [.int .i64 t135] from rfl) (Reps.one (show Kd.M (Kd.int .i64) _ _ _ t136 [.int .i64 t136] from rfl) (Reps.one (show Kd.M (Kd.int .i64) _ _ _ t137 [.int .i64 t137] from rfl) (Reps.none _ _)))))
 intro v139 w10 ho11 hb hg_ hnew_
 clear hg_ hnew_
 (first | rw[← Ny138.out]at ho11 | (simp only[Int.reduceToNat]at ho11;rw[← Ny138.out]at ho11))
 have HO140:=am (Kd.R_lower ho11 (jv (bx_ HB)))
 replace BK133:=am (jx (g:=gb133) (o:=.cells #[.int .i64 a1_0,.int .i64 a1_1,.int .i64 a1_2] 43 (0,0)) (pk_ BK133) hb)
 replace BK134:=am (jx (g:=gb134) (o:=.cells #[.int .i64 a2_0,.int .i64 a2_1,.int .i64 a2_2] 43 (0,0)) (pk_ BK134) hb)
 replace HB:=am (zp (bx_ HB) hb)
 clear hb ho11
 refine hK.out _ _ ⟨(qf BK133.out 0).trans rfl,(qf BK133.out 1).trans rfl,(qf BK133.out 2).trans rfl,(qf BK134.out 0).trans rfl,(qf BK134.out 1).trans rfl,(qf BK134.out 2).trans rfl⟩ fun hHeld=>nz ?_
 clear hK K;refine pz 52 6 HT_ ?_
 refine Zo (Qz HT_.out (by kernel_rfl)) ?_
 try go_wp2
 go_ret
 exact⟨_,fq,wR HO140,bx_ HB⟩
def Zf.f (a0:Int) (a1_0:Int) (a1_1:Int) (a1_2:Int) (l2:List Int):Option (Bool):=if 0 < (l2.length:Int) then (if 1 < (l2.length:Int) then (if 2 < (l2.length:Int) then (if a0=0 then (none) else (some ((Int.tmod (wrap64 ((wrap64 ((wrap64 (a1_0*(rd l2 0)))+(wrap64 (a1_1*(rd l2 1)))))+(wrap64 (a1_2*(rd l2 2))))) a0) == 0))) else (none)) else (none)) else (none)
theorem Zf.calls (a0:Int) (a1_0:Int) (a1_1:Int) (a1_2:Int) (A2:Option Addr) (c2:Nat) (l2:List Int) (r:Bool) (w:World) (hr2:Kd.C (Kd.int .i64) w A2 l2.length l2) (hc2:l2.length≤c2) (h:Zf.f a0 a1_0 a1_1 a1_2 l2=some r):
  Calls Try.prog 131 #[.int .i64 a0,.agg #[.int .i64 a1_0,.int .i64 a1_1,.int .i64 a1_2],.slice A2 l2.length c2] w fun e w'=>e=.returned (.bool r)∧Below w.heap.size w w':=by
 have hu43:=Try.underlying43
 have HR2:=am hr2
 have HC2:=am hc2
 clear hr2 hc2
 have HB:=am (Below.refl w.heap.size w)
 have H:(if 0 < (l2.length:Int) then (if 1 < (l2.length:Int) then (if 2 < (l2.length:Int) then (if a0=0 then (none) else (some ((Int.tmod (wrap64 ((wrap64 ((wrap64 (a1_0*(rd l2 0)))+(wrap64 (a1_1*(rd l2 1)))))+(wrap64 (a1_2*(rd l2 2))))) a0) == 0))) else (none)) else (none)) else (none))=some r:=h
 clear h
 by_cases c4:0 < (l2.length:Int)
 ·rw[if_pos c4]at H
  have c4b0:=decide_eq_true c4
  have c4b1:decide (0 < l2.length)=true:=decide_eq_true (by omega)
  clear c4;replace H:=ifn H;obtain⟨c5,H⟩:=H;have c5b0:=decide_eq_true c5
  have c5b1:decide (1 < l2.length)=true:=decide_eq_true (by omega)
  clear c5;replace H:=ifn H;obtain⟨c6,H⟩:=H;have c6b0:=decide_eq_true c6
  have c6b1:decide (2 < l2.length)=true:=decide_eq_true (by omega)
  clear c6;replace H:=ifm H;obtain⟨c7,H⟩:=H;have c7b0:=beq_eq_false_iff_ne.mpr c7;have c7b1:=bne_iff_ne.mpr c7;obtain rfl:=Option.some.inj H
  go_enter Try.func131,Try.ntmps131
  go_wp2_with (first | ((with_reducible refine q7 (N:=4) rfl ?_);refine xe_ 4 43 #[.int .i64 a1_0,.int .i64 a1_1,.int .i64 a1_2] ?_;intro gb141 hg w8 hbox hb;have BK141:=am (hbox);have GW141:=am ((by rw[hg];exact(bz HB):w.heap.size≤gb141));have GE141:=am ((by rw[hg];exact(bz HB):w.heap.size≤gb141));replace HB:=bq HB hb;clear hb hbox hg;have hcz9_0:w8.cell? ⟨gb141,0,none⟩=some (.int .i64 a1_0):=(qf BK141.out 0).trans rfl;have hcz9_1:w8.cell? ⟨gb141,1,none⟩=some (.int .i64 a1_1):=(qf BK141.out 1).trans rfl;have hcz9_2:w8.cell? ⟨gb141,2,none⟩=some (.int .i64 a1_2):=(qf BK141.out 2).trans rfl;have hfz9_0:=qz BK141.out 0;have hfz9_1:=qz BK141.out 1;have hfz9_2:=qz BK141.out 2;have p142:0≤(0:Int):=(by omega);have q142:0 < (l2.length:Int):=od;obtain⟨ad142,e142,hx142_0⟩:=Kd.at_int HR2.out 0 p142 q142;cases e142;have qi142:(0 < l2.length)=True:=eq_true (by omega);(try rw[show ((0:Int)).toNat=0 from rfl]at hx142_0);(try rw[Addr.add_zero']at hx142_0);replace hx142_0:=wcl HB hx142_0;replace p142:=eq_true p142;replace q142:=eq_true q142;have p143:0≤(1:Int):=(by omega);have q143:1 < (l2.length:Int):=od;obtain⟨ad143,e143,hx143_0⟩:=Kd.at_int HR2.out 1 p143 q143;obtain rfl:ad142=ad143:=(by injection e143);(try simp only[show (1:Int).toNat=1 from rfl,Nat.reduceMul,Nat.reduceEqDiff,Go.Addr.add,↓reduceIte]at hx143_0);have qi143:(1 < l2.length)=True:=eq_true (by omega);(try rw[show ((1:Int)).toNat=1 from rfl]at hx143_0);replace hx143_0:=wcl HB hx143_0;replace p143:=eq_true p143;replace q143:=eq_true q143;have p144:0≤(2:Int):=(by omega);have q144:2 < (l2.length:Int):=od;obtain⟨ad144,e144,hx144_0⟩:=Kd.at_int HR2.out 2 p144 q144;obtain rfl:ad142=ad144:=(by injection e144);(try simp only[show (2:Int).toNat=2 from rfl,Nat.reduceMul,Nat.reduceEqDiff,Go.Addr.add,↓reduceIte]at hx144_0);have qi144:(2 < l2.length)=True:=eq_true (by omega);(try rw[show ((2:Int)).toNat=2 from rfl]at hx144_0);replace hx144_0:=wcl HB hx144_0;replace p144:=eq_true p144;replace q144:=eq_true q144))
  repeat (go_quiet (first | ((with_reducible refine q7 (N:=4) rfl ?_);refine xe_ 4 43 #[.int .i64 a1_0,.int .i64 a1_1,.int .i64 a1_2] ?_;intro gb141 hg w8 hbox hb;have n0_:=bq HB hb;have n1_:=am (hbox);have n2_:=am ((by rw[hg];exact(bz HB):w.heap.size≤gb141));have n3_:=am ((by rw[hg];exact(bz HB):w.heap.size≤gb141));clear HB;have HB:=n0_;have BK141:=n1_;have GW141:=n2_;have GE141:=n3_;clear n0_ n1_ n2_ n3_;clear hb hbox hg;have hcz9_0:w8.cell? ⟨gb141,0,none⟩=some (.int .i64 a1_0):=(qf BK141.out 0).trans rfl;have hcz9_1:w8.cell? ⟨gb141,1,none⟩=some (.int .i64 a1_1):=(qf BK141.out 1).trans rfl;have hcz9_2:w8.cell? ⟨gb141,2,none⟩=some (.int .i64 a1_2):=(qf BK141.out 2).trans rfl;have hfz9_0:=qz BK141.out 0;have hfz9_1:=qz BK141.out 1;have hfz9_2:=qz BK141.out 2;have p142:0≤(0:Int):=(by omega);have q142:0 < (l2.length:Int):=od;obtain⟨ad142,e142,hx142_0⟩:=Kd.at_int HR2.out 0 p142 q142;cases e142;have qi142:(0 < l2.length)=True:=eq_true (by omega);(try rw[show ((0:Int)).toNat=0 from rfl]at hx142_0);(try rw[Addr.add_zero']at hx142_0);replace hx142_0:=wcl HB hx142_0;replace p142:=eq_true p142;replace q142:=eq_true q142;have p143:0≤(1:Int):=(by omega);have q143:1 < (l2.length:Int):=od;obtain⟨ad143,e143,hx143_0⟩:=Kd.at_int HR2.out 1 p143 q143;obtain rfl:ad142=ad143:=(by injection e143);(try simp only[show (1:Int).toNat=1 from rfl,Nat.reduceMul,Nat.reduceEqDiff,Go.Addr.add,↓reduceIte]at hx143_0);have qi143:(1 < l2.length)=True:=eq_true (by omega);(try rw[show ((1:Int)).toNat=1 from rfl]at hx143_0);replace hx143_0:=wcl HB hx143_0;replace p143:=eq_true p143;replace q143:=eq_true q143;have p144:0≤(2:Int):=(by omega);have q144:2 < (l2.length:Int):=od;obtain⟨ad144,e144,hx144_0⟩:=Kd.at_int HR2.out 2 p144 q144;obtain rfl:ad142=ad144:=(by injection e144);(try simp only[show (2:Int).toNat=2 from rfl,Nat.reduceMul,Nat.reduceEqDiff,Go.Addr.add,↓reduceIte]at hx144_0);have qi144:(2 < l2.length)=True:=eq_true (by omega);(try rw[show ((2:Int)).toNat=2 from rfl]at hx144_0);replace hx144_0:=wcl HB hx144_0;replace p144:=eq_true p144;replace q144:=eq_true q144));try go_wp2_with (first | ((with_reducible refine q7 (N:=4) rfl ?_);refine xe_ 4 43 #[.int .i64 a1_0,.int .i64 a1_1,.int .i64 a1_2] ?_;intro gb141 hg w8 hbox hb;have n0_:=bq HB hb;have n1_:=am (hbox);have n2_:=am ((by rw[hg];exact(bz HB):w.heap.size≤gb141));have n3_:=am ((by rw[hg];exact(bz HB):w.heap.size≤gb141));clear HB;have HB:=n0_;have BK141:=n1_;have GW141:=n2_;have GE141:=n3_;clear n0_ n1_ n2_ n3_;clear hb hbox hg;have hcz9_0:w8.cell? ⟨gb141,0,none⟩=some (.int .i64 a1_0):=(qf BK141.out 0).trans rfl;have hcz9_1:w8.cell? ⟨gb141,1,none⟩=some (.int .i64 a1_1):=(qf BK141.out 1).trans rfl;have hcz9_2:w8.cell? ⟨gb141,2,none⟩=some (.int .i64 a1_2):=(qf BK141.out 2).trans rfl;have hfz9_0:=qz BK141.out 0;have hfz9_1:=qz BK141.out 1;have hfz9_2:=qz BK141.out 2;have p142:0≤(0:Int):=(by omega);have q142:0 < (l2.length:Int):=od;obtain⟨ad142,e142,hx142_0⟩:=Kd.at_int HR2.out 0 p142 q142;cases e142;have qi142:(0 < l2.length)=True:=eq_true (by omega);(try rw[show ((0:Int)).toNat=0 from rfl]at hx142_0);(try rw[Addr.add_zero']at hx142_0);replace hx142_0:=wcl HB hx142_0;replace p142:=eq_true p142;replace q142:=eq_true q142;have p143:0≤(1:Int):=(by omega);have q143:1 < (l2.length:Int):=od;obtain⟨ad143,e143,hx143_0⟩:=Kd.at_int HR2.out 1 p143 q143;obtain rfl:ad142=ad143:=(by injection e143);(try simp only[show (1:Int).toNat=1 from rfl,Nat.reduceMul,Nat.reduceEqDiff,Go.Addr.add,↓reduceIte]at hx143_0);have qi143:(1 < l2.length)=True:=eq_true (by omega);(try rw[show ((1:Int)).toNat=1 from rfl]at hx143_0);replace hx143_0:=wcl HB hx143_0;replace p143:=eq_true p143;replace q143:=eq_true q143;have p144:0≤(2:Int):=(by omega);have q144:2 < (l2.length:Int):=od;obtain⟨ad144,e144,hx144_0⟩:=Kd.at_int HR2.out 2 p144 q144;obtain rfl:ad142=ad144:=(by injection e144);(try simp only[show (2:Int).toNat=2 from rfl,Nat.reduceMul,Nat.reduceEqDiff,Go.Addr.add,↓reduceIte]at hx144_0);have qi144:(2 < l2.length)=True:=eq_true (by omega);(try rw[show ((2:Int)).toNat=2 from rfl]at hx144_0);replace hx144_0:=wcl HB hx144_0;replace p144:=eq_true p144;replace q144:=eq_true q144)))
  go_ret
  exact⟨fq,bx_ HB⟩
 ·rw[if_neg c4]at H
  exact absurd H (by simp)
end Go.Proofs.Ytmgbpmihbljngaa.PA
