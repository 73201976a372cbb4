-- Written by xprint.py, a program of this claim's own (over the kit's print.py)
import Derived.Test.YtmgbpmihbljngaaPAx9
namespace Go.Proofs.Ytmgbpmihbljngaa.PA
set_option maxHeartbeats 8000000
set_option maxRecDepth 100000
open Go.RowKit Go.Proofs.YtmgbpmihbljngaaW.PrintWords Go.Proofs.YtmgbpmihbljngaaW.PrintLast Go.Proofs.YtmgbpmihbljngaaW.PrintMore
attribute [local go_sem] Qg Qj Qp Qo j4 j3 Qh Qf
set_option linter.unusedVariables false
set_option linter.unusedSimpArgs false
def qx.l0 :Nat→List Int→List Int→List (S41)→Int→Option (List Int)
 | 0,_,_,_,_=>none
 | k+1,x0,x3,x4,x5=>if x5 < 10 then (if 0≤x5 then (if x5 < (x4.length:Int) then (if x5 < (x0.length:Int) then (if 0≤(wrap64 ((wrap64 (10*((zw x4 x5).f0)))+((zw x4 x5).f1))) then (if (wrap64 ((wrap64 (10*((zw x4 x5).f0)))+((zw x4 x5).f1))) < (x3.length:Int) then (qx.l0 k x0 (x3.set ((wrap64 ((wrap64 (10*((zw x4 x5).f0)))+((zw x4 x5).f1))):Int).toNat (rd x0 x5)) x4 (wrap64 (x5+1))) else (none)) else (none)) else (none)) else (none)) else (none)) else (some x3)
def qx.f (k:Nat) (l0:List Int):Option (List Int):=if 100≤35184372088832 then ((Qw.f).bind fun t283=>(qx.l0 k l0 (List.replicate 100 0) t283 0)) else (none)
theorem qx.mono_l :∀ k,(∀ y0 y1 y2 y3,LeO (qx.l0 k y0 y1 y2 y3) (qx.l0 (k+1) y0 y1 y2 y3))
 | 0=>fun _ _ _ _ r h=>by simp[qx.l0]at h
 | k+1=>by
  have ih0:=qx.mono_l k
  ·intro y0 y1 y2 y3
   unfold qx.l0
   repeat' first | (with_reducible first | apply ih0 | exact LeO.refl _ | exact LeO.none _ | refine LeO.ite ?_ ?_ | refine LeO.bind ?_ (fun _=>?_)) | (first | apply ih0 | exact LeO.none _ | refine LeO.ite ?_ ?_ | refine LeO.bind ?_ (fun _=>?_))
theorem qx.mono :∀ a0 k,LeO (qx.f k a0) (qx.f (k+1) a0):=by
 intro a0 k
 have ih0:=qx.mono_l k
 unfold qx.f
 repeat' first | (with_reducible first | apply ih0 | exact LeO.refl _ | exact LeO.none _ | refine LeO.ite ?_ ?_ | refine LeO.bind ?_ (fun _=>?_)) | (first | apply ih0 | exact LeO.none _ | refine LeO.ite ?_ ?_ | refine LeO.bind ?_ (fun _=>?_))
def qx.T7 :Bool×List (List Nat×List Nat):=(true,[([],[]),([],[]),([1],[1]),([2],[2]),([],[]),([4],[4]),([3,5],[3,5]),([],[]),([],[]),([7,8],[7,8]),([9],[9]),([0,6,0,1,2,3,4,5,6,7,8,9,10],[0,6]),([11,10,0,1,2,3,4,5,6,7,8,9,10],[10,11])])
def qx.B7 :List Nat:=[0,0,2,6,0,16,62,0,0,384,896,2047,4095]
theorem qx.tab7 :rtab .any (Ju Try.f107 7)=qx.T7:=by kernel_rfl
theorem qx.bits7 :Qt qx.T7.2 qx.B7=true:=by kernel_rfl
theorem qx.calls (k:Nat) (A0:Option Addr) (c0:Nat) (l0:List Int) (r:List Int) (w:World) (hr0:Kd.C (Kd.int .i64) w A0 l0.length l0) (hc0:l0.length≤c0) (h:qx.f k l0=some r):
  Calls Try.prog 107 #[.slice A0 l0.length c0] w fun e w'=>∃ v0_:Value,e=.returned (v0_)∧Kd.R (Kd.int .i64) 3 w' w.heap.size (fun _=>True) v0_ r∧Below w.heap.size w w':=by
 have hu41:=Try.underlying41
 have HR0:=am hr0
 have HC0:=am hc0
 clear hr0 hc0
 have HB:=am (Below.refl w.heap.size w)
 have H:(if 100≤35184372088832 then ((Qw.f).bind fun t283=>(qx.l0 k l0 (List.replicate 100 0) t283 0)) else (none))=some r:=h
 clear h
 by_cases c2:100≤35184372088832
 ·rw [if_pos c2] at H
  have c2b0:=eq_true c2;have c2b1:=decide_eq_true c2;clear c2
  generalize hy280:(List.replicate 100 0:List Int)=y280 at H
  have Ny280:=am hy280.symm;clear hy280;replace H:=bs H;obtain⟨t283,A3,H⟩:=H;have H':=am H;clear H
  go_enter Try.func107,Try.ntmps107
  go_wp2_with (first | ((with_reducible refine q7 (N:=7) rfl ?_);refine Kd.R_make (Kd.int .i64) _ 3 rfl (N:=7) rfl 23 _ _ rfl 100 rfl rfl Try.underlying23 (.int .i64 0) 8 Q1 rfl (by decide) (by omega) 0 (ok:=fun _=>True) (okp:=fun _=>True) rfl (fun _ hk=>hk) trivial (by omega) (by omega) (Below.refl _ _) (Nat.le_refl _) ?_;intro v281 w4 ho5 hb hg_ hnew_;clear hg_ hnew_;(first | rw[← Ny280.out]at ho5 | (simp only[Int.reduceToNat]at ho5;rw[← Ny280.out]at ho5));have HO282:=am (Kd.R_lower ho5 (bz HB));replace HB:=bq HB hb;clear hb ho5) | ((with_reducible refine qe (f:=157) rfl ?_);refine gl 8 Try.func157 #[] ?_;(with_reducible refine(Qw.calls  t283 _ A3.out).mono ?_);rintro e w6 ⟨v284,rfl,ho0,hb⟩;refine⟨_,rfl,?_⟩;replace HO282:=am (Kd.R_below (wR HO282) hb);have HO285:=am (Kd.R_lower ho0 (bz HB));replace HB:=bq HB hb;(try clear hb);(try clear ho0)))
  go_loopg [5] k (fun kq v5 w'=>∃ (x3_1:List Int) (x5_1:Int),v5=.int .i64 x5_1∧qa (qx.l0 kq l0 x3_1 t283 x5_1=some r)∧qa (kq≤k)∧qa (Kd.R (Kd.int .i64) 3 w' w.heap.size (fun _=>True) v281 x3_1)∧qa (Kd.R k41 41 w' w.heap.size (fun _=>True) v284 t283)∧qa (Below w.heap.size w w'))
  case atStart=>exact⟨(y280),(0),fr,H',⟨Nat.le_refl _⟩,⟨wR HO282⟩,⟨wR HO285⟩,⟨bw HB⟩⟩
  case round=>
   clear H';try clear c1;try clear c2;try clear c2b0;try clear c2b1;try clear p2
   obtain⟨x3_1,x5_1,rfl,HA,HK1,HO_3,HO_4,HB⟩:=hrel
   cases gk with
   | zero=>exact absurd HA.out (by simp[qx.l0])
   | succ k1=>
    have H:=HA.out;clear HA
    simp only[qx.l0]at H
    by_cases c7:x5_1 < 10
    ·rw[if_pos c7]at H
     have c7b0:=decide_eq_true c7;clear c7;replace H:=ifn H;obtain⟨c8,H⟩:=H;have c8b0:=decide_eq_true c8;clear c8;replace H:=ifn H;obtain⟨c9,H⟩:=H;have c9b0:=decide_eq_true c9;clear c9;replace H:=ifn H;obtain⟨c10,H⟩:=H
     have c10b0:=decide_eq_true c10;clear c10
     obtain⟨ji11,hji11⟩:∃ j_:Int,(wrap64 ((wrap64 (10*((zw t283 x5_1).f0)))+((zw t283 x5_1).f1)))=j_:=⟨_,rfl⟩
     (first | rw[hji11]at H | simp only[hji11]at H)
     have hji11w:(IntKind.i64.wrap ((wrap64 (10*((zw t283 x5_1).f0)))+((zw t283 x5_1).f1)))=ji11:=(Z7 _).trans hji11
     replace H:=ifn H;obtain⟨c12,H⟩:=H;have c12b0:=decide_eq_true c12;clear c12;replace H:=ifn H;obtain⟨c13,H⟩:=H;have c13b0:=decide_eq_true c13;clear c13
     generalize hy289:(x3_1.set ((ji11):Int).toNat (rd l0 x5_1):List Int)=y289 at H
     have Ny289:=am hy289.symm;clear hy289;have H':=am H;clear H
     obtain⟨Ao15,co15,eo15⟩:=Kd.R_slice HO_4.out
     subst eo15
     have p286:0≤(x5_1:Int):=od
     have q286:x5_1 < (t283.length:Int):=od
     obtain⟨ad286,e286,hx286_0,hx286_1,hx286_2⟩:=qkf (Kd.R_reads' HO_4.out).2.2 x5_1 p286 q286
     cases e286;replace p286:=eq_true p286;replace q286:=eq_true q286
     try go_wp2_with (first | ((with_reducible refine q7 (N:=6) rfl ?_);refine xe_ 6 41 #[.int .i64 0,.int .i64 0,.int .i64 0] ?_;intro gb287 hg w16 hbox hb;replace HO_3:=am (Kd.R_below (wR HO_3) hb);replace HO_4:=am (Kd.R_below (Kd.R_elderB (wR HO_4) gb287 (Nat.le_of_eq hg.symm)) hb);have BK287:=am (hbox);have GW287:=am ((by rw[hg];exact(bz HB):w.heap.size≤gb287));have GE287:=am ((by rw[hg];exact(bz HB):w.heap.size≤gb287));replace HB:=bq HB hb;clear hb hbox hg;have hcz17_0:w16.cell? ⟨gb287,0,none⟩=some (.int .i64 0):=(qf BK287.out 0).trans rfl;have hcz17_1:w16.cell? ⟨gb287,1,none⟩=some (.int .i64 0):=(qf BK287.out 1).trans rfl;have hcz17_2:w16.cell? ⟨gb287,2,none⟩=some (.int .i64 0):=(qf BK287.out 2).trans rfl;have hfz17_0:=qz BK287.out 0;have hfz17_1:=qz BK287.out 1;have hfz17_2:=qz BK287.out 2))
     have n0_:qa (Kd.R (Kd.int .i64) 3 (((w16.setCell ⟨gb287,0,none⟩ (.int .i64 ((zw t283 x5_1).f0))).setCell ⟨gb287,1,none⟩ (.int .i64 ((zw t283 x5_1).f1))).setCell ⟨gb287,2,none⟩ (.int .i64 ((zw t283 x5_1).f2))) w.heap.size (fun _=>True) v281 x3_1):=⟨by (with_reducible repeat (first | apply Kd.R_alloc | apply Kd.R_drewN | apply Kd.R_drew));exact Kd.R_mono (Kd.R_far (p:=⟨gb287,2,none⟩) (Kd.R_far (p:=⟨gb287,1,none⟩) (Kd.R_far (p:=⟨gb287,0,none⟩) (Kd.R_types HO_3.out BK287.out (by decide)) (fun _ hk=>hk.2) (.int .i64 ((zw t283 x5_1).f0))) (fun _ hk=>hk.2) (.int .i64 ((zw t283 x5_1).f1))) (fun _ hk=>hk.2) (.int .i64 ((zw t283 x5_1).f2))) (fun _ hk=>trivial)⟩
     have n1_:qa (Kd.R k41 41 (((w16.setCell ⟨gb287,0,none⟩ (.int .i64 ((zw t283 x5_1).f0))).setCell ⟨gb287,1,none⟩ (.int .i64 ((zw t283 x5_1).f1))).setCell ⟨gb287,2,none⟩ (.int .i64 ((zw t283 x5_1).f2))) w.heap.size (fun k_=>k_≠gb287) (.slice (some ad286) t283.length co15) t283):=⟨by (with_reducible repeat (first | apply Kd.R_alloc | apply Kd.R_drewN | apply Kd.R_drew));exact Kd.R_mono (Kd.R_far (p:=⟨gb287,2,none⟩) (Kd.R_far (p:=⟨gb287,1,none⟩) (Kd.R_far (p:=⟨gb287,0,none⟩) (Kd.R_mono HO_4.out (fun k_ hk=>(⟨hk,hk.2⟩:_∧k_≠gb287))) (fun _ hk=>hk.2) (.int .i64 ((zw t283 x5_1).f0))) (fun _ hk=>hk.2) (.int .i64 ((zw t283 x5_1).f1))) (fun _ hk=>hk.2) (.int .i64 ((zw t283 x5_1).f2))) (fun _ hk=>hk.1.2)⟩
     have n2_:qa ((((w16.setCell ⟨gb287,0,none⟩ (.int .i64 ((zw t283 x5_1).f0))).setCell ⟨gb287,1,none⟩ (.int .i64 ((zw t283 x5_1).f1))).setCell ⟨gb287,2,none⟩ (.int .i64 ((zw t283 x5_1).f2))).heap[gb287]? =some (.cells #[.int .i64 ((zw t283 x5_1).f0),.int .i64 ((zw t283 x5_1).f1),.int .i64 ((zw t283 x5_1).f2)] 41 (0,0))):=⟨by (with_reducible repeat (first | refine zc ?_ _ | refine ze ?_ | refine za ?_ _));refine Ql (cs:=#[.int .i64 ((zw t283 x5_1).f0),.int .i64 ((zw t283 x5_1).f1),.int .i64 0]) ?_ 2 _ rfl;(with_reducible repeat (first | refine zc ?_ _ | refine ze ?_ | refine za ?_ _));refine Ql (cs:=#[.int .i64 ((zw t283 x5_1).f0),.int .i64 0,.int .i64 0]) ?_ 1 _ rfl;(with_reducible repeat (first | refine zc ?_ _ | refine ze ?_ | refine za ?_ _));refine Ql (cs:=#[.int .i64 0,.int .i64 0,.int .i64 0]) ?_ 0 _ rfl;(with_reducible repeat (first | refine zc ?_ _ | refine ze ?_ | refine za ?_ _));exact BK287.out⟩
     have n3_:qa (Below w.heap.size w (((w16.setCell ⟨gb287,0,none⟩ (.int .i64 ((zw t283 x5_1).f0))).setCell ⟨gb287,1,none⟩ (.int .i64 ((zw t283 x5_1).f1))).setCell ⟨gb287,2,none⟩ (.int .i64 ((zw t283 x5_1).f2)))):=⟨bx_ HB⟩
     (try clear HO_3)
     (try clear HO_4)
     (try clear BK287)
     (try clear HB)
     generalize (((w16.setCell ⟨gb287,0,none⟩ (.int .i64 ((zw t283 x5_1).f0))).setCell ⟨gb287,1,none⟩ (.int .i64 ((zw t283 x5_1).f1))).setCell ⟨gb287,2,none⟩ (.int .i64 ((zw t283 x5_1).f2)))=w18 at n0_ n1_ n2_ n3_ ⊢
     have HO_3:=n0_
     have HO_4:=n1_
     have BK287:=n2_
     have HB:=n3_
     clear n0_ n1_ n2_ n3_
     replace HO_3:=am (Kd.R_drew HO_3.out)
     replace HO_4:=am (Kd.R_drew HO_4.out)
     replace BK287:=am (ze BK287.out)
     replace HB:=am (qv HB.out)
     have p288:0≤(x5_1:Int):=od
     have q288:x5_1 < (l0.length:Int):=od
     obtain⟨ad288,e288,hx288_0⟩:=Kd.at_int HR0.out x5_1 p288 q288
     have hw288_0:=hx288_0
     cases e288
     replace hx288_0:=wcl HB hx288_0
     replace p288:=eq_true p288;replace q288:=eq_true q288
     have p14:0≤((ji11):Int):=od
     have q14:((ji11):Int) < ((x3_1.length:Int):Int):=od
     obtain⟨go14,co14,eo14,gb14,gl14,cl14,HG14⟩:=Kd.R_form HO_3.out (by omega)
     (first | cases eo14 | (injection eo14 with ea_ en_ ec_;(first | subst ea_ | (injection ea_ with ea_;subst ea_));subst ec_;clear en_))
     have GB14:=am gb14
     have GG14:=am HG14
     clear gb14 gl14 HG14
     obtain⟨hx14_0,hf14_0⟩:=Kd.R_celln 0 HO_3.out ((ji11):Int) p14 q14
     replace p14:=eq_true p14;replace q14:=eq_true q14
     have HP20:=Kd.R_putn HO_3.out ((ji11):Int) (rd l0 x5_1)
     rw[← Ny289.out]at HP20
     have HQ20:=am HP20
     clear HP20
     refine st 13 (fun w'=>w'.cell? ⟨gb287,0,none⟩=some (.int .i64 ((zw t283 x5_1).f0))∧w'.cell? ⟨gb287,1,none⟩=some (.int .i64 ((zw t283 x5_1).f1))∧w'.cell? ⟨gb287,2,none⟩=some (.int .i64 ((zw t283 x5_1).f2))∧w'.cell? (ad288.add (x5_1).toNat)=some (.int .i64 (rd l0 x5_1))) [12] qx.tab7 qx.bits7 (⟨(qf BK287.out 0).trans rfl,(qf BK287.out 1).trans rfl,(qf BK287.out 2).trans rfl,(wcl HB hw288_0)⟩) fun hHeld HT_ HW_=>?_
     generalize w18.drew=w19 at HO_3 HO_4 BK287 HB GG14 HQ20 hf14_0 hx14_0 hx288_0 hHeld ⊢
     refine pz 0 17 HT_ ?_;refine pz 1 18 HT_ ?_;refine pz 4 21 HT_ ?_;refine pz 7 24 HT_ ?_;refine pz 8 25 HT_ ?_;refine pz 9 26 HT_ ?_;refine tk 2 19 HT_ HW_ hHeld ?_;refine pz 3 20 HT_ ?_;refine tk 5 22 HT_ HW_ hHeld ?_;refine pz 6 23 HT_ ?_
     refine tk 10 27 HT_ HW_ hHeld ?_;refine pz 11 28 HT_ ?_
     refine la 12 none HT_ fun K hK=>?_
     refine qir (w1:=?_) (by rfl) rfl ?_ ?_
     rotate_left
     ·go_simp
      rfl
     refine hK.out _ _ ?_
     clear hK K
     refine Zo (Qz HT_.out (by kernel_rfl)) ?_
     try go_wp2
     go_roundg k1
     case measure=>have:=HK1.out;omega
     case rel=>exact⟨(y289),(wrap64 (x5_1+1)),fr,H',⟨by have:=HK1.out;omega⟩,⟨wR HQ20⟩,⟨by (with_reducible repeat (first | apply Kd.R_alloc | apply Kd.R_drewN | apply Kd.R_drew));exact Kd.R_mono (Kd.R_far (p:=⟨go14,((ji11):Int).toNat,none⟩) (Kd.R_types HO_4.out GG14.out (by decide)) (fun _ hk=>hk.2) (.int .i64 (rd l0 x5_1))) (fun _ hk=>trivial)⟩,⟨bx_ HB⟩⟩
    ·rw[if_neg c7]at H
     have c7b0:=decide_eq_false c7;clear c7;obtain rfl:=Option.some.inj H;go_wp2;go_ret
     exact⟨_,fq,wR HO_3,bw HB⟩
 ·rw[if_neg c2]at H
  exact absurd H (by simp)
mutual
def qn.l0 :Nat→Int→List Int→List Int→List Int→Int→Option (List Int)
 | 0,_,_,_,_,_=>none
 | k+1,x0,x1,x2,x7,x8=>if x8 < 100 then (if 0≤x8 then (if x8 < (x1.length:Int) then (if (rd x1 x8)=0 then (qn.l0 k x0 x1 x2 x7 (wrap64 (x8+1))) else (qn.l1 k x0 x1 x2 x7 x8 0)) else (none)) else (none)) else (some x7)
def qn.l1 :Nat→Int→List Int→List Int→List Int→Int→Int→Option (List Int)
 | 0,_,_,_,_,_,_=>none
 | k+1,x0,x1,x2,x7,x8,x9=>if (wrap64 (x8+x9)) < 100 then (if 0≤x9 then (if x9 < (x2.length:Int) then (if (rd x2 x9)=0 then (qn.l1 k x0 x1 x2 x7 x8 (wrap64 (x9+1))) else (if 0≤(wrap64 (x8+x9)) then (if (wrap64 (x8+x9)) < (x7.length:Int) then (if 0≤x8 then (if x8 < (x1.length:Int) then (if x0=0 then (none) else (qn.l1 k x0 x1 x2 (x7.set ((wrap64 (x8+x9)):Int).toNat (Int.tmod (wrap64 ((rd x7 (wrap64 (x8+x9)))+(wrap64 ((rd x1 x8)*(rd x2 x9))))) x0)) x8 (wrap64 (x9+1)))) else (none)) else (none)) else (none)) else (none))) else (none)) else (none)) else (qn.l0 k x0 x1 x2 x7 (wrap64 (x8+1)))
end
def qn.f (k:Nat) (a0:Int) (l1:List Int) (l2:List Int):Option (List Int):=if 100≤35184372088832 then (qn.l0 k a0 l1 l2 (List.replicate 100 0) 0) else (none)
theorem qn.mono_l :∀ k,(∀ y0 y1 y2 y3 y4,LeO (qn.l0 k y0 y1 y2 y3 y4) (qn.l0 (k+1) y0 y1 y2 y3 y4))∧(∀ y0 y1 y2 y3 y4 y5,LeO (qn.l1 k y0 y1 y2 y3 y4 y5) (qn.l1 (k+1) y0 y1 y2 y3 y4 y5))
 | 0=>⟨fun _ _ _ _ _ r h=>by simp[qn.l0]at h,fun _ _ _ _ _ _ r h=>by simp[qn.l1]at h⟩
 | k+1=>by
  obtain⟨ih0,ih1⟩:=qn.mono_l k
  refine⟨?_,?_⟩
  ·intro y0 y1 y2 y3 y4
   unfold qn.l0
   repeat' first | (with_reducible first | apply ih0 | apply ih1 | exact LeO.refl _ | exact LeO.none _ | refine LeO.ite ?_ ?_ | refine LeO.bind ?_ (fun _=>?_)) | (first | apply ih0 | apply ih1 | exact LeO.none _ | refine LeO.ite ?_ ?_ | refine LeO.bind ?_ (fun _=>?_))
  ·intro y0 y1 y2 y3 y4 y5
   unfold qn.l1
   repeat' first | (with_reducible first | apply ih0 | apply ih1 | exact LeO.refl _ | exact LeO.none _ | refine LeO.ite ?_ ?_ | refine LeO.bind ?_ (fun _=>?_)) | (first | apply ih0 | apply ih1 | exact LeO.none _ | refine LeO.ite ?_ ?_ | refine LeO.bind ?_ (fun _=>?_))
theorem qn.mono :∀ a0 a1 a2 k,LeO (qn.f k a0 a1 a2) (qn.f (k+1) a0 a1 a2):=by
 intro a0 a1 a2 k
 obtain⟨ih0,ih1⟩:=qn.mono_l k
 unfold qn.f
 repeat' first | (with_reducible first | apply ih0 | apply ih1 | exact LeO.refl _ | exact LeO.none _ | refine LeO.ite ?_ ?_ | refine LeO.bind ?_ (fun _=>?_)) | (first | apply ih0 | apply ih1 | exact LeO.none _ | refine LeO.ite ?_ ?_ | refine LeO.bind ?_ (fun _=>?_))
def qn.T10 :Bool×List (List Nat×List Nat):=(true,[([],[]),([],[]),([],[]),([1,2],[1,2]),([],[]),([],[]),([],[]),([5,6],[5,6]),([4,7],[4,7]),([8],[8]),([],[]),([],[]),([10,11],[10,11]),([12],[12]),([],[]),([],[]),([14,15],[14,15]),([16],[16]),([13,17],[13,17]),([9,18],[9,18]),([],[]),([19,20],[19,20]),([0,3,0,1,2,3,4,5,6,7,8,9,10,11,12,13,14,15,16,17,18,19,20,21],[0,3]),([22,21,0,1,2,3,4,5,6,7,8,9,10,11,12,13,14,15,16,17,18,19,20,21],[21,22])])
def qn.B10 :List Nat:=[0,0,0,6,0,0,0,96,240,496,0,0,3072,7168,0,0,49152,114688,261120,524272,0,2097136,4194303,8388607]
theorem qn.tab10 :rtab .any (Ju Try.f108 10)=qn.T10:=by kernel_rfl
theorem qn.bits10 :Qt qn.T10.2 qn.B10=true:=by kernel_rfl
theorem qn.calls (k:Nat) (a0:Int) (A1:Option Addr) (c1:Nat) (l1:List Int) (A2:Option Addr) (c2:Nat) (l2:List Int) (r:List Int) (w:World) (hr1:Kd.C (Kd.int .i64) w A1 l1.length l1) (hc1:l1.length≤c1) (hr2:Kd.C (Kd.int .i64) w A2 l2.length l2) (hc2:l2.length≤c2) (h:qn.f k a0 l1 l2=some r):
  Calls Try.prog 108 #[.int .i64 a0,.slice A1 l1.length c1,.slice A2 l2.length c2] w fun e w'=>∃ v0_:Value,e=.returned (v0_)∧Kd.R (Kd.int .i64) 3 w' w.heap.size (fun _=>True) v0_ r∧Below w.heap.size w w':=by
 have HR1:=am hr1
 have HC1:=am hc1
 clear hr1 hc1
 have HR2:=am hr2
 have HC2:=am hc2
 clear hr2 hc2
 have HB:=am (Below.refl w.heap.size w)
 have H:(if 100≤35184372088832 then (qn.l0 k a0 l1 l2 (List.replicate 100 0) 0) else (none))=some r:=h
 clear h
 by_cases c4:100≤35184372088832
 ·rw [if_pos c4] at H
  have c4b0:=eq_true c4;have c4b1:=decide_eq_true c4;clear c4
  generalize hy290:(List.replicate 100 0:List Int)=y290 at H
  have Ny290:=am hy290.symm;clear hy290;have H':=am H;clear H
  go_enter Try.func108,Try.ntmps108
  go_wp2_with (first | ((with_reducible refine q7 (N:=10) rfl ?_);refine Kd.R_make (Kd.int .i64) _ 3 rfl (N:=10) rfl 23 _ _ rfl 100 rfl rfl Try.underlying23 (.int .i64 0) 8 Q1 rfl (by decide) (by omega) 0 (ok:=fun _=>True) (okp:=fun _=>True) rfl (fun _ hk=>hk) trivial (by omega) (by omega) (Below.refl _ _) (Nat.le_refl _) ?_;intro v291 w5 ho6 hb hg_ hnew_;clear hg_ hnew_;(first | rw[← Ny290.out]at ho6 | (simp only[Int.reduceToNat]at ho6;rw[← Ny290.out]at ho6));have HO292:=am (Kd.R_lower ho6 (bz HB));replace HB:=bq HB hb;clear hb ho6))
  go_loopg [8] k (fun kq v8 w'=>∃ (x7_1:List Int) (x8_1:Int),v8=.int .i64 x8_1∧qa (qn.l0 kq a0 l1 l2 x7_1 x8_1=some r)∧qa (kq≤k)∧qa (Kd.R (Kd.int .i64) 3 w' w.heap.size (fun _=>True) v291 x7_1)∧qa (Below w.heap.size w w'))
  case atStart=>exact⟨(y290),(0),fr,H',⟨Nat.le_refl _⟩,⟨wR HO292⟩,⟨bw HB⟩⟩
  case round=>
   clear H';try clear c1;try clear c2;try clear p2;try clear c4;try clear c4b0;try clear c4b1
   obtain⟨x7_1,x8_1,rfl,HA,HK1,HO_7,HB⟩:=hrel
   cases gk with
   | zero=>exact absurd HA.out (by simp[qn.l0])
   | succ k1=>
    have H:=HA.out;clear HA
    simp only[qn.l0]at H
    by_cases c7:x8_1 < 100
    ·rw [if_pos c7] at H
     have c7b0:=decide_eq_true c7;clear c7;replace H:=ifn H;obtain⟨c8,H⟩:=H;have c8b0:=decide_eq_true c8;clear c8;replace H:=ifn H;obtain⟨c9,H⟩:=H;have c9b0:=decide_eq_true c9;clear c9
     by_cases c10:(rd l1 x8_1)=0
     ·rw[if_pos c10]at H
      have c10b0:=beq_iff_eq.mpr c10;have c10b1:=bne_eq_false_iff_eq.mpr c10;clear c10;have H':=am H;clear H
      have p293:0≤(x8_1:Int):=od
      have q293:x8_1 < (l1.length:Int):=od
      obtain⟨ad293,e293,hx293_0⟩:=Kd.at_int HR1.out x8_1 p293 q293
      cases e293
      replace hx293_0:=wcl HB hx293_0
      replace p293:=eq_true p293;replace q293:=eq_true q293;go_wp2
      go_roundg k1
      case measure=>have:=HK1.out;omega
      case rel=>exact⟨(x7_1),(wrap64 (x8_1+1)),fr,H',⟨by have:=HK1.out;omega⟩,⟨wR HO_7⟩,⟨bw HB⟩⟩
     ·rw [if_neg c10] at H
      have c10b0:=beq_eq_false_iff_ne.mpr c10;have c10b1:=bne_iff_ne.mpr c10;have H':=am H;clear H
      have p293:0≤(x8_1:Int):=od
      have q293:x8_1 < (l1.length:Int):=od
      obtain⟨ad293,e293,hx293_0⟩:=Kd.at_int HR1.out x8_1 p293 q293
      cases e293
      replace hx293_0:=wcl HB hx293_0
      replace p293:=eq_true p293;replace q293:=eq_true q293;go_wp2
      go_loopg [9] k1 (fun kq v9 w'=>∃ (x7_2:List Int) (x9_2:Int),v9=.int .i64 x9_2∧qa (qn.l1 kq a0 l1 l2 x7_2 x8_1 x9_2=some r)∧qa (kq≤k1)∧qa (Kd.R (Kd.int .i64) 3 w' w.heap.size (fun _=>True) v291 x7_2)∧qa (Below w.heap.size w w'))
      case atStart=>exact⟨(x7_1),(0),fr,H',⟨Nat.le_refl _⟩,⟨wR HO_7⟩,⟨bw HB⟩⟩
      case round=>
       clear H';try clear c1;try clear c2;try clear p2;try clear q2;try clear hx2;try clear c4;try clear c4b0;try clear c4b1;try clear p6;try clear c7;try clear c7b0;try clear c8;try clear c8b0;try clear c9;try clear c9b0;try clear c10
       try clear c10b0;try clear c10b1;try clear hx293_0;try clear p2;try clear p293;try clear q293
       obtain⟨x7_2,x9_2,rfl,HA,HK2,HO_7,HB⟩:=hrel
       cases gk with
       | zero=>exact absurd HA.out (by simp[qn.l1])
       | succ k2=>
        have H:=HA.out;clear HA
        simp only[qn.l1]at H
        by_cases c11:(wrap64 (x8_1+x9_2)) < 100
        ·rw[if_pos c11]at H
         have c11b0:=decide_eq_true c11;clear c11;replace H:=ifn H;obtain⟨c12,H⟩:=H;have c12b0:=decide_eq_true c12;clear c12;replace H:=ifn H;obtain⟨c13,H⟩:=H;have c13b0:=decide_eq_true c13;clear c13
         by_cases c14:(rd l2 x9_2)=0
         ·rw[if_pos c14]at H
          have c14b0:=beq_iff_eq.mpr c14;have c14b1:=bne_eq_false_iff_eq.mpr c14;clear c14;have H':=am H;clear H
          have p294:0≤(x9_2:Int):=od
          have q294:x9_2 < (l2.length:Int):=od
          obtain⟨ad294,e294,hx294_0⟩:=Kd.at_int HR2.out x9_2 p294 q294
          cases e294
          replace hx294_0:=wcl HB hx294_0
          replace p294:=eq_true p294;replace q294:=eq_true q294;go_wp2
          go_roundg k2
          case measure=>have:=HK1.out;have:=HK2.out;omega
          case rel=>exact⟨(x7_2),(wrap64 (x9_2+1)),fr,H',⟨by have:=HK1.out;have:=HK2.out;omega⟩,⟨wR HO_7⟩,⟨bw HB⟩⟩
         ·rw[if_neg c14]at H
          have c14b0:=beq_eq_false_iff_ne.mpr c14;have c14b1:=bne_iff_ne.mpr c14
          obtain⟨ji15,hji15⟩:∃ j_:Int,(wrap64 (x8_1+x9_2))=j_:=⟨_,rfl⟩
          (first | rw[hji15]at H | simp only[hji15]at H)
          (try rw[hji15]at c11b0)
          have hji15w:(IntKind.i64.wrap (x8_1+x9_2))=ji15:=(Z7 _).trans hji15
          replace H:=ifn H;obtain⟨c16,H⟩:=H;have c16b0:=decide_eq_true c16;clear c16;replace H:=ifn H;obtain⟨c17,H⟩:=H;have c17b0:=decide_eq_true c17;clear c17;replace H:=ifn H;obtain⟨c18,H⟩:=H;have c18b0:=decide_eq_true c18
          clear c18;replace H:=ifn H;obtain⟨c19,H⟩:=H;have c19b0:=decide_eq_true c19;clear c19;replace H:=ifm H;obtain⟨c20,H⟩:=H;have c20b0:=beq_eq_false_iff_ne.mpr c20;have c20b1:=bne_iff_ne.mpr c20
          generalize hy298:(x7_2.set ((ji15):Int).toNat (Int.tmod (wrap64 ((rd x7_2 (ji15))+(wrap64 ((rd l1 x8_1)*(rd l2 x9_2))))) a0):List Int)=y298 at H
          have Ny298:=am hy298.symm;clear hy298;have H':=am H;clear H
          have p294:0≤(x9_2:Int):=od
          have q294:x9_2 < (l2.length:Int):=od
          obtain⟨ad294,e294,hx294_0⟩:=Kd.at_int HR2.out x9_2 p294 q294
          cases e294
          replace hx294_0:=wcl HB hx294_0
          replace p294:=eq_true p294;replace q294:=eq_true q294
          try go_wp2
          replace HO_7:=am (Kd.R_drew HO_7.out)
          replace HB:=am (qv HB.out)
          obtain⟨Ao23,co23,eo23⟩:=Kd.R_slice HO_7.out
          (first | subst eo23 | (injection eo23 with f1_ f2_ f3_;have f4_:=f1_.symm;have f5_:=f3_.symm;clear f1_ f2_ f3_;subst f4_;subst f5_))
          have p295:0≤((ji15):Int):=od
          have q295:(ji15) < (x7_2.length:Int):=od
          obtain⟨ad295,e295,hx295_0⟩:=Kd.at_int (Kd.R_reads' HO_7.out).2.2 (ji15) p295 q295
          cases e295;replace p295:=eq_true p295;replace q295:=eq_true q295
          have p296:0≤(x8_1:Int):=od
          have q296:x8_1 < (l1.length:Int):=od
          obtain⟨ad296,e296,hx296_0⟩:=Kd.at_int HR1.out x8_1 p296 q296
          have hw296_0:=hx296_0
          obtain rfl:ad293=ad296:=(by injection e296)
          replace hx296_0:=wcl HB hx296_0
          replace p296:=eq_true p296;replace q296:=eq_true q296
          have p297:0≤(x9_2:Int):=od
          have q297:x9_2 < (l2.length:Int):=od
          obtain⟨ad297,e297,hx297_0⟩:=Kd.at_int HR2.out x9_2 p297 q297
          have hw297_0:=hx297_0
          obtain rfl:ad294=ad297:=(by injection e297)
          replace hx297_0:=wcl HB hx297_0
          replace p297:=eq_true p297;replace q297:=eq_true q297
          have p21:0≤((ji15):Int):=od
          have q21:((ji15):Int) < ((x7_2.length:Int):Int):=od
          obtain⟨go21,co21,eo21,gb21,gl21,cl21,HG21⟩:=Kd.R_form HO_7.out (by omega)
          (first | cases eo21 | (injection eo21 with ea_ en_ ec_;(first | subst ea_ | (injection ea_ with ea_;subst ea_));subst ec_;clear en_))
          have GB21:=am gb21
          have GG21:=am HG21
          clear gb21 gl21 HG21
          (first | simp only[Zv]at hx295_0 | skip)
          obtain⟨hx21_0,hf21_0⟩:=Kd.R_celln 0 HO_7.out ((ji15):Int) p21 q21
          replace p21:=eq_true p21;replace q21:=eq_true q21
          have HP24:=Kd.R_putn HO_7.out ((ji15):Int) (Int.tmod (wrap64 ((rd x7_2 (ji15))+(wrap64 ((rd l1 x8_1)*(rd l2 x9_2))))) a0)
          rw[← Ny298.out]at HP24
          have HQ24:=am HP24
          clear HP24
          refine st 24 (fun w'=>w'.cell? ⟨go21,((ji15)).toNat,none⟩=some (.int .i64 (rd x7_2 (ji15)))∧w'.cell? (ad293.add (x8_1).toNat)=some (.int .i64 (rd l1 x8_1))∧w'.cell? (ad294.add (x9_2).toNat)=some (.int .i64 (rd l2 x9_2))) [23] qn.tab10 qn.bits10 (⟨hx295_0,(wcl HB hw296_0),(wcl HB hw297_0)⟩) fun hHeld HT_ HW_=>?_
          generalize wr.drew=w22 at HO_7 HB GG21 HQ24 hf21_0 hx21_0 hx295_0 hx296_0 hx297_0 hHeld ⊢
          refine pz 0 31 HT_ ?_;refine pz 1 32 HT_ ?_;refine pz 2 33 HT_ ?_;refine pz 3 34 HT_ ?_;refine pz 4 35 HT_ ?_;refine pz 5 36 HT_ ?_;refine pz 6 37 HT_ ?_;refine pz 7 38 HT_ ?_;refine pz 8 39 HT_ ?_;refine pz 10 41 HT_ ?_;refine pz 11 42 HT_ ?_
          refine pz 12 43 HT_ ?_;refine pz 14 45 HT_ ?_;refine pz 15 46 HT_ ?_;refine pz 16 47 HT_ ?_;refine pz 20 51 HT_ ?_;refine tk 9 40 HT_ HW_ hHeld ?_;refine tk 13 44 HT_ HW_ hHeld ?_;refine tk 17 48 HT_ HW_ hHeld ?_;refine pz 18 49 HT_ ?_
          refine pz 19 50 HT_ ?_;refine pz 21 52 HT_ ?_;refine pz 22 53 HT_ ?_
          refine la 23 none HT_ fun K hK=>?_
          refine qir (w1:=?_) (by rfl) rfl ?_ ?_
          rotate_left
          ·go_simp
           rfl
          refine hK.out _ _ ?_
          clear hK K
          refine Zo (Qz HT_.out (by kernel_rfl)) ?_
          try go_wp2
          go_roundg k2
          case measure=>have:=HK1.out;have:=HK2.out;omega
          case rel=>exact⟨(y298),(wrap64 (x9_2+1)),fr,H',⟨by have:=HK1.out;have:=HK2.out;omega⟩,⟨wR HQ24⟩,⟨bx_ HB⟩⟩
        ·rw[if_neg c11]at H
         have c11b0:=decide_eq_false c11;clear c11;have H':=am H;clear H;go_wp2
         go_roundg k2
         case measure=>have:=HK1.out;have:=HK2.out;omega
         case rel=>exact⟨(x7_2),(wrap64 (x8_1+1)),fr,H',⟨by have:=HK1.out;have:=HK2.out;omega⟩,⟨wR HO_7⟩,⟨bw HB⟩⟩
    ·rw[if_neg c7]at H
     have c7b0:=decide_eq_false c7;clear c7;obtain rfl:=Option.some.inj H;go_wp2;go_ret
     exact⟨_,fq,wR HO_7,bw HB⟩
 ·rw[if_neg c4]at H
  exact absurd H (by simp)
end Go.Proofs.Ytmgbpmihbljngaa.PA
