-- Written by xprint.py, a program of this claim's own (over the kit's print.py)
import Derived.Test.YtmgbpmihbljngaaPAx3
namespace Go.Proofs.Ytmgbpmihbljngaa.PA
set_option maxHeartbeats 8000000
set_option maxRecDepth 100000
open Go.RowKit Go.Proofs.YtmgbpmihbljngaaW.PrintWords Go.Proofs.YtmgbpmihbljngaaW.PrintLast Go.Proofs.YtmgbpmihbljngaaW.PrintMore
attribute [local go_sem] Qs Qr Qx Qw Qf Qe Qq Qp
set_option linter.unusedVariables false
set_option linter.unusedSimpArgs false
def j8.f (a0:Int) (a1_0:Int) (a1_1:Int) (a1_2:Int) (a2_0:Int) (a2_1:Int) (a2_2:Int):Option (List Int):=(Qn.f a0 (wrap64 ((wrap64 (a1_1*a2_2)) - (wrap64 (a1_2*a2_1))))).bind fun t144=>((Qn.f a0 (wrap64 ((wrap64 (a1_2*a2_0)) - (wrap64 (a1_0*a2_2))))).bind fun t145=>((Qn.f a0 (wrap64 ((wrap64 (a1_0*a2_1)) - (wrap64 (a1_1*a2_0))))).bind fun t146=>(some (([t144,t145,t146]:List Int)))))
def j8.T1 :Bool×List (List Nat×List Nat):=(true,[([],[]),([],[]),([1],[1]),([2],[2]),([],[]),([4],[4]),([5],[5]),([3,6],[3,6]),([],[]),([8],[8]),([9],[9]),([],[]),([11],[11]),([12],[12]),([10,13],[10,13]),([7,14],[7,14]),([0,15],[0,15]),([],[]),([],[]),([18],[18]),([19],[19]),([],[]),([21],[21]),([22],[22]),([20,23],[20,23]),([],[]),([25],[25]),([26],[26]),([],[]),([28],[28]),([29],[29]),([27,30],[27,30]),([24,31],[24,31]),([17,32,16],[17,32]),([],[]),([],[]),([35],[35]),([36],[36]),([],[]),([38],[38]),([39],[39]),([37,40],[37,40]),([],[]),([42],[42]),([43],[43]),([],[]),([45],[45]),([46],[46]),([44,47],[44,47]),([41,48],[41,48]),([34,49,33],[34,49]),([16,33,50],[16,33,50]),([51,50,0,1,2,3,4,5,6,7,8,9,10,11,12,13,14,15,16,17,18,19,20,21,22,23,24,25,26,27,28,29,30,31,32,33,34,35,36,37,38,39,40,41,42,43,44,45,46,47,48,49,50,51],[51])])
def j8.B1 :List Nat:=[0,0,2,6,0,16,48,126,0,256,768,0,2048,6144,16128,32766,65535,0,0,262144,786432,0,2097152,6291456,16515072,0,33554432,100663296,0,268435456,805306368,2113929216,4294705152,8589934591,0,0,34359738368,103079215104,0,274877906944,824633720832,2164663517184,0,4398046511104,13194139533312,0,35184372088832,105553116266496,277076930199552,562915593682944,1125899906842623,2251799813685247,4503599627370495]
theorem j8.tab1 :rtab .any (Z0 Try.f130 1)=j8.T1:=by kernel_rfl
theorem j8.bits1 :Qj j8.T1.2 j8.B1=true:=by kernel_rfl
theorem j8.calls (a0:Int) (a1_0:Int) (a1_1:Int) (a1_2:Int) (a2_0:Int) (a2_1:Int) (a2_2:Int) (r:List Int) (w:World) (h:j8.f a0 a1_0 a1_1 a1_2 a2_0 a2_1 a2_2=some r):
  Calls Try.prog 130 #[.int .i64 a0,.agg #[.int .i64 a1_0,.int .i64 a1_1,.int .i64 a1_2],.agg #[.int .i64 a2_0,.int .i64 a2_1,.int .i64 a2_2]] w fun e w'=>∃ v0_:Value,e=.returned (v0_)∧Kd.R (Kd.int .i64) 3 w' w.heap.size (fun _=>True) v0_ r∧Below w.heap.size w w':=by
 have hu43:=Try.underlying43
 have HB:=am (Below.refl w.heap.size w)
 have H:((Qn.f a0 (wrap64 ((wrap64 (a1_1*a2_2)) - (wrap64 (a1_2*a2_1))))).bind fun t144=>((Qn.f a0 (wrap64 ((wrap64 (a1_2*a2_0)) - (wrap64 (a1_0*a2_2))))).bind fun t145=>((Qn.f a0 (wrap64 ((wrap64 (a1_0*a2_1)) - (wrap64 (a1_1*a2_0))))).bind fun t146=>(some (([t144,t145,t146]:List Int))))))=some r:=h
 clear h;replace H:=bs H;obtain⟨t144,A4,H⟩:=H;replace H:=bs H;obtain⟨t145,A5,H⟩:=H;replace H:=bs H;obtain⟨t146,A6,H⟩:=H
 generalize hy147:(([t144,t145,t146]:List Int))=y147 at H
 have Ny147:=am hy147.symm;clear hy147;obtain rfl:=Option.some.inj H
 go_enter Try.func130,Try.ntmps130
 try go_wp2_with (first | ((with_reducible refine zb (N:=4) rfl ?_);refine xe_ 4 43 #[.int .i64 a1_0,.int .i64 a1_1,.int .i64 a1_2] ?_;intro gb142 hg w7 hbox hb;have BK142:=am (hbox);have GW142:=am ((by rw[hg];exact(bz HB):w.heap.size≤gb142));have GE142:=am ((by rw[hg];exact(bz HB):w.heap.size≤gb142));replace HB:=bq HB hb;clear hb hbox hg) | ((with_reducible refine zb (N:=5) rfl ?_);refine xe_ 5 43 #[.int .i64 a2_0,.int .i64 a2_1,.int .i64 a2_2] ?_;intro gb143 hg w8 hbox hb;have BK143:=am (hbox);have GW143:=am ((by rw[hg];exact(zo (bx_ HB)):w.heap.size≤gb143));have GE143:=am ((by rw[hg];exact(zo (bx_ HB)):w.heap.size≤gb143));replace HB:=am (jg (bx_ HB) hb);have NB142_143:=am ((by rw[hg];exact Nat.ne_of_lt (jy (g:=gb142) (o:=.cells #[.int .i64 a1_0,.int .i64 a1_1,.int .i64 a1_2] 43 (0,0)) (pk_ BK142)):gb142≠gb143));have NB143_142:=am ((by rw[hg];exact Nat.ne_of_gt (jy (g:=gb142) (o:=.cells #[.int .i64 a1_0,.int .i64 a1_1,.int .i64 a1_2] 43 (0,0)) (pk_ BK142)):gb143≠gb142));replace BK142:=am (qv (g:=gb142) (o:=.cells #[.int .i64 a1_0,.int .i64 a1_1,.int .i64 a1_2] 43 (0,0)) (pk_ BK142) hb);clear hb hbox hg))
 replace BK142:=am (qw BK142.out)
 replace BK143:=am (qw BK143.out)
 replace HB:=am (Qg HB.out)
 refine st 53 (fun w'=>w'.cell? ⟨gb142,0,none⟩=some (.int .i64 a1_0)∧w'.cell? ⟨gb142,1,none⟩=some (.int .i64 a1_1)∧w'.cell? ⟨gb142,2,none⟩=some (.int .i64 a1_2)∧w'.cell? ⟨gb143,0,none⟩=some (.int .i64 a2_0)∧w'.cell? ⟨gb143,1,none⟩=some (.int .i64 a2_1)∧w'.cell? ⟨gb143,2,none⟩=some (.int .i64 a2_2)) [] j8.tab1 j8.bits1 (⟨(qe BK142.out 0).trans rfl,(qe BK142.out 1).trans rfl,(qe BK142.out 2).trans rfl,(qe BK143.out 0).trans rfl,(qe BK143.out 1).trans rfl,(qe BK143.out 2).trans rfl⟩) fun hHeld HT_ HW_=>?_
 generalize w8.drew=w9 at BK142 BK143 HB hHeld ⊢
 refine pz 0 7 HT_ ?_;refine pz 1 8 HT_ ?_;refine pz 2 9 HT_ ?_;refine pz 4 11 HT_ ?_;refine pz 5 12 HT_ ?_;refine pz 8 15 HT_ ?_;refine pz 9 16 HT_ ?_;refine pz 11 18 HT_ ?_;refine pz 12 19 HT_ ?_;refine pz 17 24 HT_ ?_;refine pz 18 25 HT_ ?_
 refine pz 19 26 HT_ ?_;refine pz 21 28 HT_ ?_;refine pz 22 29 HT_ ?_;refine pz 25 32 HT_ ?_;refine pz 26 33 HT_ ?_;refine pz 28 35 HT_ ?_;refine pz 29 36 HT_ ?_;refine pz 34 41 HT_ ?_;refine pz 35 42 HT_ ?_;refine pz 36 43 HT_ ?_;refine pz 38 45 HT_ ?_
 refine pz 39 46 HT_ ?_;refine pz 42 49 HT_ ?_;refine pz 43 50 HT_ ?_;refine pz 45 52 HT_ ?_;refine pz 46 53 HT_ ?_;refine tk 3 10 HT_ HW_ hHeld ?_;refine tk 6 13 HT_ HW_ hHeld ?_;refine pz 7 14 HT_ ?_;refine tk 10 17 HT_ HW_ hHeld ?_
 refine tk 13 20 HT_ HW_ hHeld ?_;refine pz 14 21 HT_ ?_;refine pz 15 22 HT_ ?_;refine tk 20 27 HT_ HW_ hHeld ?_;refine tk 23 30 HT_ HW_ hHeld ?_;refine pz 24 31 HT_ ?_;refine tk 27 34 HT_ HW_ hHeld ?_;refine tk 30 37 HT_ HW_ hHeld ?_
 refine pz 31 38 HT_ ?_;refine pz 32 39 HT_ ?_;refine tk 37 44 HT_ HW_ hHeld ?_;refine tk 40 47 HT_ HW_ hHeld ?_;refine pz 41 48 HT_ ?_;refine tk 44 51 HT_ HW_ hHeld ?_;refine tk 47 54 HT_ HW_ hHeld ?_;refine pz 48 55 HT_ ?_;refine pz 49 56 HT_ ?_
 refine on 16 (some 23) HT_ fun K hK=>?_
 refine gs_ Try.func158 #[.int .i64 a0,.int .i64 (wrap64 ((wrap64 (a1_1*a2_2)) - (wrap64 (a1_2*a2_1))))] ?_
 with_reducible refine(Qn.calls a0 (wrap64 ((wrap64 (a1_1*a2_2)) - (wrap64 (a1_2*a2_1)))) t144 _ A4.out).mono ?_
 rintro e w' ⟨rfl,⟨nd,rfl⟩⟩
 refine⟨_,rfl,?_⟩
 refine hK.out _ _ ⟨(qe BK142.out 0).trans rfl,(qe BK142.out 1).trans rfl,(qe BK142.out 2).trans rfl,(qe BK143.out 0).trans rfl,(qe BK143.out 1).trans rfl,(qe BK143.out 2).trans rfl⟩ fun hHeld=>nz ?_
 clear hK K
 refine on 33 (some 40) HT_ fun K hK=>?_
 refine gs_ Try.func158 #[.int .i64 a0,.int .i64 (wrap64 ((wrap64 (a1_2*a2_0)) - (wrap64 (a1_0*a2_2))))] ?_
 with_reducible refine(Qn.calls a0 (wrap64 ((wrap64 (a1_2*a2_0)) - (wrap64 (a1_0*a2_2)))) t145 _ A5.out).mono ?_
 rintro e w' ⟨rfl,⟨nd,rfl⟩⟩
 refine⟨_,rfl,?_⟩
 refine hK.out _ _ ⟨(qe BK142.out 0).trans rfl,(qe BK142.out 1).trans rfl,(qe BK142.out 2).trans rfl,(qe BK143.out 0).trans rfl,(qe BK143.out 1).trans rfl,(qe BK143.out 2).trans rfl⟩ fun hHeld=>nz ?_
 clear hK K
 refine on 50 (some 57) HT_ fun K hK=>?_
 refine gs_ Try.func158 #[.int .i64 a0,.int .i64 (wrap64 ((wrap64 (a1_0*a2_1)) - (wrap64 (a1_1*a2_0))))] ?_
 with_reducible refine(Qn.calls a0 (wrap64 ((wrap64 (a1_0*a2_1)) - (wrap64 (a1_1*a2_0)))) t146 _ A6.out).mono ?_
 rintro e w' ⟨rfl,⟨nd,rfl⟩⟩
 refine⟨_,rfl,?_⟩
 refine hK.out _ _ ⟨(qe BK142.out 0).trans rfl,(qe BK142.out 1).trans rfl,(qe BK142.out 2).trans rfl,(qe BK143.out 0).trans rfl,(qe BK143.out 1).trans rfl,(qe BK143.out 2).trans rfl⟩ fun hHeld=>nz ?_
 clear hK K
 refine on 51 (some 58) HT_ fun K hK=>?_
 refine Kd.R_lit_step (Kd.int .i64) _ 3 ?hg (N:=58) ?hd (xs:=([t144,t145,t146]:List Int)) (inner:=[.int .i64 t144,.int .i64 t145,.int .i64 t146]) (ok:=fun _=>True) (okp:=fun _=>True) ?hr ?hp (fun _ hk=>hk) trivial (Below.refl _ _) (Nat.le_refl _) (by simp) ?_;(case hd=>rfl);(case hg=>rfl);(case hr=>first | (go_simp;done) | (go_simp;rfl));(case hp=>exact(Reps.one (show Kd.M (Kd.int .i64) _ _ _ t144 [.int .i64 t144] from rfl) (Reps.one (show Kd.M (Kd.int .i64) _ _ _ t145 [.int .i64 t145] from rfl) (Reps.one (show Kd.M (Kd.int .i64) _ _ _ t146 [.int .i64 t146] from rfl) (Reps.none _ _)))))
 intro v148 w10 ho11 hb hg_ hnew_
 clear hg_ hnew_
 (first | rw[← Ny147.out]at ho11 | (simp only[Int.reduceToNat]at ho11;rw[← Ny147.out]at ho11))
 have HO149:=am (Kd.R_lower ho11 (zo (bx_ HB)))
 replace BK142:=am (qv (g:=gb142) (o:=.cells #[.int .i64 a1_0,.int .i64 a1_1,.int .i64 a1_2] 43 (0,0)) (pk_ BK142) hb)
 replace BK143:=am (qv (g:=gb143) (o:=.cells #[.int .i64 a2_0,.int .i64 a2_1,.int .i64 a2_2] 43 (0,0)) (pk_ BK143) hb)
 replace HB:=am (jg (bx_ HB) hb)
 clear hb ho11
 refine hK.out _ _ ⟨(qe BK142.out 0).trans rfl,(qe BK142.out 1).trans rfl,(qe BK142.out 2).trans rfl,(qe BK143.out 0).trans rfl,(qe BK143.out 1).trans rfl,(qe BK143.out 2).trans rfl⟩ fun hHeld=>nz ?_
 clear hK K;refine pz 52 6 HT_ ?_
 refine Q3 (Qa HT_.out (by kernel_rfl)) ?_
 try go_wp2
 go_ret
 exact⟨_,fq,wR HO149,bx_ HB⟩
def Zl.f (a0:Int) (a1_0:Int) (a1_1:Int) (a1_2:Int) (l2:List Int):Option (Bool):=if 0 < (l2.length:Int) then (if 1 < (l2.length:Int) then (if 2 < (l2.length:Int) then (if a0=0 then (none) else (some ((Int.tmod (wrap64 ((wrap64 ((wrap64 (a1_0*(rd l2 0)))+(wrap64 (a1_1*(rd l2 1)))))+(wrap64 (a1_2*(rd l2 2))))) a0) == 0))) else (none)) else (none)) else (none)
theorem Zl.calls (a0:Int) (a1_0:Int) (a1_1:Int) (a1_2:Int) (A2:Option Addr) (c2:Nat) (l2:List Int) (r:Bool) (w:World) (hr2:Kd.C (Kd.int .i64) w A2 l2.length l2) (hc2:l2.length≤c2) (h:Zl.f a0 a1_0 a1_1 a1_2 l2=some r):
  Calls Try.prog 131 #[.int .i64 a0,.agg #[.int .i64 a1_0,.int .i64 a1_1,.int .i64 a1_2],.slice A2 l2.length c2] w fun e w'=>e=.returned (.bool r)∧Below w.heap.size w w':=by
 have hu43:=Try.underlying43
 have HR2:=am hr2
 have HC2:=am hc2
 clear hr2 hc2
 have HB:=am (Below.refl w.heap.size w)
 have H:(if 0 < (l2.length:Int) then (if 1 < (l2.length:Int) then (if 2 < (l2.length:Int) then (if a0=0 then (none) else (some ((Int.tmod (wrap64 ((wrap64 ((wrap64 (a1_0*(rd l2 0)))+(wrap64 (a1_1*(rd l2 1)))))+(wrap64 (a1_2*(rd l2 2))))) a0) == 0))) else (none)) else (none)) else (none))=some r:=h
 clear h
 by_cases c4:0 < (l2.length:Int)
 ·rw[if_pos c4]at H
  have c4b0:=decide_eq_true c4
  have c4b1:decide (0 < l2.length)=true:=decide_eq_true (by omega)
  clear c4;replace H:=ifn H;obtain⟨c5,H⟩:=H;have c5b0:=decide_eq_true c5
  have c5b1:decide (1 < l2.length)=true:=decide_eq_true (by omega)
  clear c5;replace H:=ifn H;obtain⟨c6,H⟩:=H;have c6b0:=decide_eq_true c6
  have c6b1:decide (2 < l2.length)=true:=decide_eq_true (by omega)
  clear c6;replace H:=ifm H;obtain⟨c7,H⟩:=H;have c7b0:=beq_eq_false_iff_ne.mpr c7;have c7b1:=bne_iff_ne.mpr c7;obtain rfl:=Option.some.inj H
  go_enter Try.func131,Try.ntmps131
  go_wp2_with (first | ((with_reducible refine zb (N:=4) rfl ?_);refine xe_ 4 43 #[.int .i64 a1_0,.int .i64 a1_1,.int .i64 a1_2] ?_;intro gb150 hg w8 hbox hb;have BK150:=am (hbox);have GW150:=am ((by rw[hg];exact(bz HB):w.heap.size≤gb150));have GE150:=am ((by rw[hg];exact(bz HB):w.heap.size≤gb150));replace HB:=bq HB hb;clear hb hbox hg;have hcz9_0:w8.cell? ⟨gb150,0,none⟩=some (.int .i64 a1_0):=(qe BK150.out 0).trans rfl;have hcz9_1:w8.cell? ⟨gb150,1,none⟩=some (.int .i64 a1_1):=(qe BK150.out 1).trans rfl;have hcz9_2:w8.cell? ⟨gb150,2,none⟩=some (.int .i64 a1_2):=(qe BK150.out 2).trans rfl;have hfz9_0:=ql BK150.out 0;have hfz9_1:=ql BK150.out 1;have hfz9_2:=ql BK150.out 2;have p151:0≤(0:Int):=(by omega);have q151:0 < (l2.length:Int):=od;obtain⟨ad151,e151,hx151_0⟩:=Kd.at_int HR2.out 0 p151 q151;cases e151;have qi151:(0 < l2.length)=True:=eq_true (by omega);(try rw[show ((0:Int)).toNat=0 from rfl]at hx151_0);(try rw[Addr.add_zero']at hx151_0);replace hx151_0:=wcl HB hx151_0;replace p151:=eq_true p151;replace q151:=eq_true q151;have p152:0≤(1:Int):=(by omega);have q152:1 < (l2.length:Int):=od;obtain⟨ad152,e152,hx152_0⟩:=Kd.at_int HR2.out 1 p152 q152;obtain rfl:ad151=ad152:=(by injection e152);(try simp only[show (1:Int).toNat=1 from rfl,Nat.reduceMul,Nat.reduceEqDiff,Go.Addr.add,↓reduceIte]at hx152_0);have qi152:(1 < l2.length)=True:=eq_true (by omega);(try rw[show ((1:Int)).toNat=1 from rfl]at hx152_0);replace hx152_0:=wcl HB hx152_0;replace p152:=eq_true p152;replace q152:=eq_true q152;have p153:0≤(2:Int):=(by omega);have q153:2 < (l2.length:Int):=od;obtain⟨ad153,e153,hx153_0⟩:=Kd.at_int HR2.out 2 p153 q153;obtain rfl:ad151=ad153:=(by injection e153);(try simp only[show (2:Int).toNat=2 from rfl,Nat.reduceMul,Nat.reduceEqDiff,Go.Addr.add,↓reduceIte]at hx153_0);have qi153:(2 < l2.length)=True:=eq_true (by omega);(try rw[show ((2:Int)).toNat=2 from rfl]at hx153_0);replace hx153_0:=wcl HB hx153_0;replace p153:=eq_true p153;replace q153:=eq_true q153))
  repeat (go_quiet (first | ((with_reducible refine zb (N:=4) rfl ?_);refine xe_ 4 43 #[.int .i64 a1_0,.int .i64 a1_1,.int .i64 a1_2] ?_;intro gb150 hg w8 hbox hb;have n0_:=bq HB hb;have n1_:=am (hbox);have n2_:=am ((by rw[hg];exact(bz HB):w.heap.size≤gb150));have n3_:=am ((by rw[hg];exact(bz HB):w.heap.size≤gb150));clear HB;have HB:=n0_;have BK150:=n1_;have GW150:=n2_;have GE150:=n3_;clear n0_ n1_ n2_ n3_;clear hb hbox hg;have hcz9_0:w8.cell? ⟨gb150,0,none⟩=some (.int .i64 a1_0):=(qe BK150.out 0).trans rfl;have hcz9_1:w8.cell? ⟨gb150,1,none⟩=some (.int .i64 a1_1):=(qe BK150.out 1).trans rfl;have hcz9_2:w8.cell? ⟨gb150,2,none⟩=some (.int .i64 a1_2):=(qe BK150.out 2).trans rfl;have hfz9_0:=ql BK150.out 0;have hfz9_1:=ql BK150.out 1;have hfz9_2:=ql BK150.out 2;have p151:0≤(0:Int):=(by omega);have q151:0 < (l2.length:Int):=od;obtain⟨ad151,e151,hx151_0⟩:=Kd.at_int HR2.out 0 p151 q151;cases e151;have qi151:(0 < l2.length)=True:=eq_true (by omega);(try rw[show ((0:Int)).toNat=0 from rfl]at hx151_0);(try rw[Addr.add_zero']at hx151_0);replace hx151_0:=wcl HB hx151_0;replace p151:=eq_true p151;replace q151:=eq_true q151;have p152:0≤(1:Int):=(by omega);have q152:1 < (l2.length:Int):=od;obtain⟨ad152,e152,hx152_0⟩:=Kd.at_int HR2.out 1 p152 q152;obtain rfl:ad151=ad152:=(by injection e152);(try simp only[show (1:Int).toNat=1 from rfl,Nat.reduceMul,Nat.reduceEqDiff,Go.Addr.add,↓reduceIte]at hx152_0);have qi152:(1 < l2.length)=True:=eq_true (by omega);(try rw[show ((1:Int)).toNat=1 from rfl]at hx152_0);replace hx152_0:=wcl HB hx152_0;replace p152:=eq_true p152;replace q152:=eq_true q152;have p153:0≤(2:Int):=(by omega);have q153:2 < (l2.length:Int):=od;obtain⟨ad153,e153,hx153_0⟩:=Kd.at_int HR2.out 2 p153 q153;obtain rfl:ad151=ad153:=(by injection e153);(try simp only[show (2:Int).toNat=2 from rfl,Nat.reduceMul,Nat.reduceEqDiff,Go.Addr.add,↓reduceIte]at hx153_0);have qi153:(2 < l2.length)=True:=eq_true (by omega);(try rw[show ((2:Int)).toNat=2 from rfl]at hx153_0);replace hx153_0:=wcl HB hx153_0;replace p153:=eq_true p153;replace q153:=eq_true q153));try go_wp2_with (first | ((with_reducible refine zb (N:=4) rfl ?_);refine xe_ 4 43 #[.int .i64 a1_0,.int .i64 a1_1,.int .i64 a1_2] ?_;intro gb150 hg w8 hbox hb;have n0_:=bq HB hb;have n1_:=am (hbox);have n2_:=am ((by rw[hg];exact(bz HB):w.heap.size≤gb150));have n3_:=am ((by rw[hg];exact(bz HB):w.heap.size≤gb150));clear HB;have HB:=n0_;have BK150:=n1_;have GW150:=n2_;have GE150:=n3_;clear n0_ n1_ n2_ n3_;clear hb hbox hg;have hcz9_0:w8.cell? ⟨gb150,0,none⟩=some (.int .i64 a1_0):=(qe BK150.out 0).trans rfl;have hcz9_1:w8.cell? ⟨gb150,1,none⟩=some (.int .i64 a1_1):=(qe BK150.out 1).trans rfl;have hcz9_2:w8.cell? ⟨gb150,2,none⟩=some (.int .i64 a1_2):=(qe BK150.out 2).trans rfl;have hfz9_0:=ql BK150.out 0;have hfz9_1:=ql BK150.out 1;have hfz9_2:=ql BK150.out 2;have p151:0≤(0:Int):=(by omega);have q151:0 < (l2.length:Int):=od;obtain⟨ad151,e151,hx151_0⟩:=Kd.at_int HR2.out 0 p151 q151;cases e151;have qi151:(0 < l2.length)=True:=eq_true (by omega);(try rw[show ((0:Int)).toNat=0 from rfl]at hx151_0);(try rw[Addr.add_zero']at hx151_0);replace hx151_0:=wcl HB hx151_0;replace p151:=eq_true p151;replace q151:=eq_true q151;have p152:0≤(1:Int):=(by omega);have q152:1 < (l2.length:Int):=od;obtain⟨ad152,e152,hx152_0⟩:=Kd.at_int HR2.out 1 p152 q152;obtain rfl:ad151=ad152:=(by injection e152);(try simp only[show (1:Int).toNat=1 from rfl,Nat.reduceMul,Nat.reduceEqDiff,Go.Addr.add,↓reduceIte]at hx152_0);have qi152:(1 < l2.length)=True:=eq_true (by omega);(try rw[show ((1:Int)).toNat=1 from rfl]at hx152_0);replace hx152_0:=wcl HB hx152_0;replace p152:=eq_true p152;replace q152:=eq_true q152;have p153:0≤(2:Int):=(by omega);have q153:2 < (l2.length:Int):=od;obtain⟨ad153,e153,hx153_0⟩:=Kd.at_int HR2.out 2 p153 q153;obtain rfl:ad151=ad153:=(by injection e153);(try simp only[show (2:Int).toNat=2 from rfl,Nat.reduceMul,Nat.reduceEqDiff,Go.Addr.add,↓reduceIte]at hx153_0);have qi153:(2 < l2.length)=True:=eq_true (by omega);(try rw[show ((2:Int)).toNat=2 from rfl]at hx153_0);replace hx153_0:=wcl HB hx153_0;replace p153:=eq_true p153;replace q153:=eq_true q153)))
  go_ret
  exact⟨fq,bx_ HB⟩
 ·rw[if_neg c4]at H
  exact absurd H (by simp)
end Go.Proofs.Ytmgbpmihbljngaa.PA
