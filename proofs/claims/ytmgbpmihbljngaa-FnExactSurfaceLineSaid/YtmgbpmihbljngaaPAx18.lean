-- Written by xprint.py, a program of this claim's own (over the kit's print.py)
import Derived.Test.YtmgbpmihbljngaaPAx17
namespace Go.Proofs.Ytmgbpmihbljngaa.PA
set_option maxHeartbeats 8000000
set_option maxRecDepth 100000
open Go.RowKit Go.Proofs.YtmgbpmihbljngaaW.PrintWords Go.Proofs.YtmgbpmihbljngaaW.PrintLast Go.Proofs.YtmgbpmihbljngaaW.PrintMore
attribute [local go_sem] Qs Qr Qx Qw Qf Qe Qq Qp
set_option linter.unusedVariables false
set_option linter.unusedSimpArgs false
def zn.l0 :Nat→List (List Int)→List (S43)→Int→Int→Option ((List (List Int)))
 | 0,_,_,_,_=>none
 | k+1,x3,x10,x11,x12=>if x12 < x11 then (if 0≤x12 then (if x12 < (x10.length:Int) then (if x3.length < 5864062014805 then (zn.l0 k (x3++[(([wrap64 (((qd x10 x12).f0.f0)*((qd x10 x12).f0.f0)),wrap64 (((qd x10 x12).f0.f0)*((qd x10 x12).f0.f1)),wrap64 (((qd x10 x12).f0.f0)*((qd x10 x12).f0.f2)),wrap64 (((qd x10 x12).f0.f1)*((qd x10 x12).f0.f1)),wrap64 (((qd x10 x12).f0.f1)*((qd x10 x12).f0.f2)),wrap64 (((qd x10 x12).f0.f2)*((qd x10 x12).f0.f2))]:List Int))]) x10 x11 (wrap64 (x12+1))) else (none)) else (none)) else (none)) else (some x3)
def zn.f (k:Nat) (l0:List (S43)):Option ((List (List Int))):=zn.l0 k (([]:List (List Int))) l0 (l0.length:Int) 0
theorem zn.mono_l :∀ k,(∀ y0 y1 y2 y3,LeO (zn.l0 k y0 y1 y2 y3) (zn.l0 (k+1) y0 y1 y2 y3))
 | 0=>fun _ _ _ _ r h=>by simp[zn.l0]at h
 | k+1=>by
  have ih0:=zn.mono_l k
  ·intro y0 y1 y2 y3
   unfold zn.l0
   repeat' first | (with_reducible first | apply ih0 | exact LeO.refl _ | exact LeO.none _ | refine LeO.ite ?_ ?_ | refine LeO.bind ?_ (fun _=>?_)) | (first | apply ih0 | exact LeO.none _ | refine LeO.ite ?_ ?_ | refine LeO.bind ?_ (fun _=>?_))
theorem zn.mono :∀ a0 k,LeO (zn.f k a0) (zn.f (k+1) a0):=by
 intro a0 k
 have ih0:=zn.mono_l k
 unfold zn.f
 repeat' first | (with_reducible first | apply ih0 | exact LeO.refl _ | exact LeO.none _ | refine LeO.ite ?_ ?_ | refine LeO.bind ?_ (fun _=>?_)) | (first | apply ih0 | exact LeO.none _ | refine LeO.ite ?_ ?_ | refine LeO.bind ?_ (fun _=>?_))
theorem zn.calls (k:Nat) (A0:Option Addr) (c0:Nat) (l0:List (S43)) (r:List (List Int)) (w:World) (hr0:Kd.C k43 w A0 l0.length l0) (hc0:l0.length≤c0) (h:zn.f k l0=some r):
  Calls Try.prog 113 #[.slice A0 l0.length c0] w fun e w'=>∃ v0_:Value,e=.returned (v0_)∧Kd.S (Kd.slice 3 (Kd.int .i64)) 23 w' w.heap.size (fun _=>True) v0_ r∧Below w.heap.size w w':=by
 have hu43:=Try.underlying43
 have HR0:=am hr0
 have HC0:=am hc0
 clear hr0 hc0
 have HB:=am (Below.refl w.heap.size w)
 have H:(zn.l0 k (([]:List (List Int))) l0 (l0.length:Int) 0)=some r:=h
 clear h
 generalize hy380:(([]:List (List Int)))=y380 at H
 have Ny380:=am hy380.symm;clear hy380;have H':=am H;clear H
 go_enter Try.func113,Try.ntmps113
 go_wp2_with (first | ((with_reducible refine zb (N:=9) rfl ?_);refine Kd.S_lit (Kd.slice 3 (Kd.int .i64)) _ 23 ?hg (N:=9) ?hd (xs:=([]:List (List Int))) (inner:=[]) (ok:=fun _=>True) (okp:=fun _=>True) ?hr ?hp (fun _ hk=>hk) trivial (Below.refl _ _) (Nat.le_refl _) (by simp) ?_;(case hd=>rfl);(case hg=>rfl);(case hr=>first | (go_simp;done) | (go_simp;rfl));(case hp=>exact(Reps.none _ _));intro v381 w2 ho3 hb hg_ hnew_;clear hg_ hnew_;(first | rw[← Ny380.out]at ho3 | (simp only[Int.reduceToNat]at ho3;rw[← Ny380.out]at ho3));have HO382:=am (Kd.S_lower ho3 (bz HB));replace HB:=bq HB hb;clear hb ho3))
 repeat (go_quiet (first | ((with_reducible refine zb (N:=9) rfl ?_);refine Kd.S_lit (Kd.slice 3 (Kd.int .i64)) _ 23 ?hg (N:=9) ?hd (xs:=([]:List (List Int))) (inner:=[]) (ok:=fun _=>True) (okp:=fun _=>True) ?hr ?hp (fun _ hk=>hk) trivial (Below.refl _ _) (Nat.le_refl _) (by simp) ?_;(case hd=>rfl);(case hg=>rfl);(case hr=>first | (go_simp;done) | (go_simp;rfl));(case hp=>exact(Reps.none _ _));intro v381 w2 ho3 hb hg_ hnew_;clear hg_ hnew_;(first | rw[← Ny380.out]at ho3 | (simp only[Int.reduceToNat]at ho3;rw[← Ny380.out]at ho3));have n0_:=am (Kd.S_lower ho3 (bz HB));have n1_:=bq HB hb;clear HB;have HO382:=n0_;have HB:=n1_;clear n0_ n1_;clear hb ho3));try go_wp2_with (first | ((with_reducible refine zb (N:=9) rfl ?_);refine Kd.S_lit (Kd.slice 3 (Kd.int .i64)) _ 23 ?hg (N:=9) ?hd (xs:=([]:List (List Int))) (inner:=[]) (ok:=fun _=>True) (okp:=fun _=>True) ?hr ?hp (fun _ hk=>hk) trivial (Below.refl _ _) (Nat.le_refl _) (by simp) ?_;(case hd=>rfl);(case hg=>rfl);(case hr=>first | (go_simp;done) | (go_simp;rfl));(case hp=>exact(Reps.none _ _));intro v381 w2 ho3 hb hg_ hnew_;clear hg_ hnew_;(first | rw[← Ny380.out]at ho3 | (simp only[Int.reduceToNat]at ho3;rw[← Ny380.out]at ho3));have n0_:=am (Kd.S_lower ho3 (bz HB));have n1_:=bq HB hb;clear HB;have HO382:=n0_;have HB:=n1_;clear n0_ n1_;clear hb ho3)))
 go_loopg [3,12] k (fun kq v3 v12 w'=>∃ (x3_1:List (List Int)) (x12_1:Int),v12=.int .i64 x12_1∧qf (zn.l0 kq x3_1 l0 (l0.length:Int) x12_1=some r)∧qf (kq≤k)∧qf (Kd.S (Kd.slice 3 (Kd.int .i64)) 23 w' w.heap.size (fun _=>True) v3 x3_1)∧qf (Below w.heap.size w w'))
 case atStart=>exact⟨(y380),(0),fr,H',⟨Nat.le_refl _⟩,⟨wS HO382⟩,⟨bw HB⟩⟩
 case round=>
  clear H';try clear c1;try clear p2
  obtain⟨x3_1,x12_1,rfl,HA,HK1,HO_3,HB⟩:=hrel
  cases gk with
  | zero=>exact absurd HA.out (by simp[zn.l0])
  | succ k1=>
   have H:=HA.out;clear HA
   simp only[zn.l0]at H
   by_cases c4:x12_1 < (l0.length:Int)
   ·rw[if_pos c4]at H
    have c4b0:=decide_eq_true c4;clear c4;replace H:=ifn H;obtain⟨c5,H⟩:=H;have c5b0:=decide_eq_true c5;clear c5;replace H:=ifn H;obtain⟨c6,H⟩:=H;have c6b0:=decide_eq_true c6;clear c6
    generalize hy385:(([wrap64 (((qd l0 x12_1).f0.f0)*((qd l0 x12_1).f0.f0)),wrap64 (((qd l0 x12_1).f0.f0)*((qd l0 x12_1).f0.f1)),wrap64 (((qd l0 x12_1).f0.f0)*((qd l0 x12_1).f0.f2)),wrap64 (((qd l0 x12_1).f0.f1)*((qd l0 x12_1).f0.f1)),wrap64 (((qd l0 x12_1).f0.f1)*((qd l0 x12_1).f0.f2)),wrap64 (((qd l0 x12_1).f0.f2)*((qd l0 x12_1).f0.f2))]:List Int))=y385 at H
    have Ny385:=am hy385.symm;clear hy385;replace H:=ifn H;obtain⟨c7,H⟩:=H;have LMc7:=am c7;clear c7
    generalize hy388:(x3_1++[y385]:List (List Int))=y388 at H
    have Ny388:=am hy388.symm;clear hy388;have H':=am H;clear H
    have p383:0≤(x12_1:Int):=od
    have q383:x12_1 < (l0.length:Int):=od
    obtain⟨ad383,e383,hx383_0,hx383_1,hx383_2⟩:=Qo HR0.out x12_1 p383 q383
    cases e383
    replace hx383_0:=wcl HB hx383_0
    replace hx383_1:=wcl HB hx383_1
    replace hx383_2:=wcl HB hx383_2
    replace p383:=eq_true p383;replace q383:=eq_true q383
    go_wp2_with (first | ((with_reducible refine zb (N:=5) rfl ?_);refine xe_ 5 43 #[.int .i64 0,.int .i64 0,.int .i64 0] ?_;intro gb384 hg w8 hbox hb;replace HO_3:=am (Kd.S_below (wS HO_3) hb);have BK384:=am (hbox);have GW384:=am ((by rw[hg];exact(bz HB):w.heap.size≤gb384));have GE384:=am ((by rw[hg];exact(bz HB):w.heap.size≤gb384));replace HB:=bq HB hb;clear hb hbox hg;have hcz9_0:w8.cell? ⟨gb384,0,none⟩=some (.int .i64 0):=(qe BK384.out 0).trans rfl;have hcz9_1:w8.cell? ⟨gb384,1,none⟩=some (.int .i64 0):=(qe BK384.out 1).trans rfl;have hcz9_2:w8.cell? ⟨gb384,2,none⟩=some (.int .i64 0):=(qe BK384.out 2).trans rfl;have hfz9_0:=ql BK384.out 0;have hfz9_1:=ql BK384.out 1;have hfz9_2:=ql BK384.out 2) | ((with_reducible refine zb (N:=44) rfl ?_);refine li 3 [wrap64 (((qd l0 x12_1).f0.f0)*((qd l0 x12_1).f0.f0)),wrap64 (((qd l0 x12_1).f0.f0)*((qd l0 x12_1).f0.f1)),wrap64 (((qd l0 x12_1).f0.f0)*((qd l0 x12_1).f0.f2)),wrap64 (((qd l0 x12_1).f0.f1)*((qd l0 x12_1).f0.f1)),wrap64 (((qd l0 x12_1).f0.f1)*((qd l0 x12_1).f0.f2)),wrap64 (((qd l0 x12_1).f0.f2)*((qd l0 x12_1).f0.f2))] ?_;intro v386 w10 ho11 hb;(first | rw[← Ny385.out]at ho11 | (simp only[Int.reduceToNat]at ho11;rw[← Ny385.out]at ho11));replace HO_3:=am (Kd.S_elder' (by (with_reducible repeat (first | apply Kd.S_alloc | apply Kd.S_drewN | apply Kd.S_drew));exact(Kd.S_mono (Kd.S_far (p:=⟨gb384,2,none⟩) (Kd.S_far (p:=⟨gb384,1,none⟩) (Kd.S_far (p:=⟨gb384,0,none⟩) (Kd.S_types HO_3.out BK384.out (by decide)) (fun _ hk=>hk.2) (.int .i64 ((qd l0 x12_1).f0.f0))) (fun _ hk=>hk.2) (.int .i64 ((qd l0 x12_1).f0.f1))) (fun _ hk=>hk.2) (.int .i64 ((qd l0 x12_1).f0.f2))) (fun _ h_=>h_.1))) (Kd.R_base ho11) hb);have HO387:=am (Kd.R_lower ho11 (zo (bx_ HB)));replace BK384:=am (qv (g:=gb384) (o:=.cells #[.int .i64 ((qd l0 x12_1).f0.f0),.int .i64 ((qd l0 x12_1).f0.f1),.int .i64 ((qd l0 x12_1).f0.f2)] 43 (0,0)) (by (with_reducible repeat (first | refine qx ?_ _ | refine qw ?_ | refine qq ?_ _));refine Qu (cs:=#[.int .i64 ((qd l0 x12_1).f0.f0),.int .i64 ((qd l0 x12_1).f0.f1),.int .i64 0]) ?_ 2 _ rfl;(with_reducible repeat (first | refine qx ?_ _ | refine qw ?_ | refine qq ?_ _));refine Qu (cs:=#[.int .i64 ((qd l0 x12_1).f0.f0),.int .i64 0,.int .i64 0]) ?_ 1 _ rfl;(with_reducible repeat (first | refine qx ?_ _ | refine qw ?_ | refine qq ?_ _));refine Qu (cs:=#[.int .i64 0,.int .i64 0,.int .i64 0]) ?_ 0 _ rfl;(with_reducible repeat (first | refine qx ?_ _ | refine qw ?_ | refine qq ?_ _));exact BK384.out) hb);replace HB:=am (jg (bx_ HB) hb);clear hb ho11;obtain⟨Ao13,co13,eo13⟩:=Kd.R_slice HO387.out;subst eo13) | ((with_reducible refine jr (b:=.append) (xs:=#[.tmp 25,.tmp 45]) rfl ?_);at_builtin;refine Kd.S_append (Kd.slice 3 (Kd.int .i64)) (w0:=w) w.heap.size rfl (.tmp 25) (.tmp 45) 47 23 (.slice none 0 0) 24 rfl Try.underlying47 Zu rfl (by decide) (by omega) u3 x3_1 y385 [.slice Ao13 y385.length co13] (fun _=>True) (fun k_=>some k_=(.slice Ao13 y385.length co13:Value).ownBlock) rfl rfl ?aP (fun k_ hk_=>((Kd.R_mono (ok':=fun k_=>((fun _=>True)) k_∧some k_≠(u3:Value).ownBlock) (Kd.R_apart' (HO387.out) (Kd.S_typed HO_3.out) (by decide)) (fun k_ hk=>⟨trivial,hk.2⟩))).1 k_ hk_.symm) ?aF ?aO ?aB ?aS ?aL ?_;(case aP=>exact Kd.M_row (Kd.R_mono (Kd.R_tight rfl (Kd.R_mono (ok':=fun k_=>((fun _=>True)) k_∧some k_≠(u3:Value).ownBlock) (Kd.R_apart' (HO387.out) (Kd.S_typed HO_3.out) (by decide)) (fun k_ hk=>⟨trivial,hk.2⟩))) (fun _ h_=>h_)));(case aB=>exact(bx_ HB));(case aF=>exact(fun _ _=>trivial));(case aO=>exact(oS_ HO_3 (fun k_ hk=>⟨trivial,fun e_=>hk.2 e_⟩)));(case aS=>exact(zo (bx_ HB)));(case aL=>have:=LMc7.out;omega);intro v389 w12 ho hb hg hat;rw[← Ny388.out]at ho;replace BK384:=am (Q2 (g:=gb384) (o:=.cells #[.int .i64 ((qd l0 x12_1).f0.f0),.int .i64 ((qd l0 x12_1).f0.f1),.int .i64 ((qd l0 x12_1).f0.f2)] 43 (0,0)) (pk_ BK384) hg (Kd.S_ne HO_3.out BK384.out (by decide)));replace HB:=am (hb);have HO390:=am (ho);clear HO_3 HO387;clear ho hb hg hat))
    repeat (go_quiet (first | ((with_reducible refine zb (N:=5) rfl ?_);refine xe_ 5 43 #[.int .i64 0,.int .i64 0,.int .i64 0] ?_;intro gb384 hg w8 hbox hb;have n0_:=am (Kd.S_below (wS HO_3) hb);have n1_:=bq HB hb;have n2_:=am (hbox);have n3_:=am ((by rw[hg];exact(bz HB):w.heap.size≤gb384));have n4_:=am ((by rw[hg];exact(bz HB):w.heap.size≤gb384));clear HO_3;clear HB;have HO_3:=n0_;have HB:=n1_;have BK384:=n2_;have GW384:=n3_;have GE384:=n4_;clear n0_ n1_ n2_ n3_ n4_;clear hb hbox hg;have hcz9_0:w8.cell? ⟨gb384,0,none⟩=some (.int .i64 0):=(qe BK384.out 0).trans rfl;have hcz9_1:w8.cell? ⟨gb384,1,none⟩=some (.int .i64 0):=(qe BK384.out 1).trans rfl;have hcz9_2:w8.cell? ⟨gb384,2,none⟩=some (.int .i64 0):=(qe BK384.out 2).trans rfl;have hfz9_0:=ql BK384.out 0;have hfz9_1:=ql BK384.out 1;have hfz9_2:=ql BK384.out 2) | ((with_reducible refine zb (N:=44) rfl ?_);refine Kd.R_lit (Kd.int .i64) _ 3 ?hg (N:=44) ?hd (xs:=([wrap64 (((qd l0 x12_1).f0.f0)*((qd l0 x12_1).f0.f0)),wrap64 (((qd l0 x12_1).f0.f0)*((qd l0 x12_1).f0.f1)),wrap64 (((qd l0 x12_1).f0.f0)*((qd l0 x12_1).f0.f2)),wrap64 (((qd l0 x12_1).f0.f1)*((qd l0 x12_1).f0.f1)),wrap64 (((qd l0 x12_1).f0.f1)*((qd l0 x12_1).f0.f2)),wrap64 (((qd l0 x12_1).f0.f2)*((qd l0 x12_1).f0.f2))]:List Int)) (inner:=[.int .i64 (wrap64 (((qd l0 x12_1).f0.f0)*((qd l0 x12_1).f0.f0))),.int .i64 (wrap64 (((qd l0 x12_1).f0.f0)*((qd l0 x12_1).f0.f1))),.int .i64 (wrap64 (((qd l0 x12_1).f0.f0)*((qd l0 x12_1).f0.f2))),.int .i64 (wrap64 (((qd l0 x12_1).f0.f1)*((qd l0 x12_1).f0.f1))),.int .i64 (wrap64 (((qd l0 x12_1).f0.f1)*((qd l0 x12_1).f0.f2))),.int .i64 (wrap64 (((qd l0 x12_1).f0.f2)*((qd l0 x12_1).f0.f2)))]) (ok:=fun _=>True) (okp:=fun _=>True) ?hr ?hp (fun _ hk=>hk) trivial (Below.refl _ _) (Nat.le_refl _) (by simp) ?_;(case hd=>rfl);(case hg=>rfl);(case hr=>first | (go_simp;done) | (go_simp;rfl));(case hp=>exact(Reps.one (show Kd.M (Kd.int .i64) _ _ _ (wrap64 (((qd l0 x12_1).f0.f0)*((qd l0 x12_1).f0.f0))) [.int .i64 (wrap64 (((qd l0 x12_1).f0.f0)*((qd l0 x12_1).f0.f0)))] from rfl) (Reps.one (show Kd.M (Kd.int .i64) _ _ _ (wrap64 (((qd l0 x12_1).f0.f0)*((qd l0 x12_1).f0.f1))) [.int .i64 (wrap64 (((qd l0 x12_1).f0.f0)*((qd l0 x12_1).f0.f1)))] from rfl) (Reps.one (show Kd.M (Kd.int .i64) _ _ _ (wrap64 (((qd l0 x12_1).f0.f0)*((qd l0 x12_1).f0.f2))) [.int .i64 (wrap64 (((qd l0 x12_1).f0.f0)*((qd l0 x12_1).f0.f2)))] from rfl) (Reps.one (show Kd.M (Kd.int .i64) _ _ _ (wrap64 (((qd l0 x12_1).f0.f1)*((qd l0 x12_1).f0.f1))) [.int .i64 (wrap64 (((qd l0 x12_1).f0.f1)*((qd l0 x12_1).f0.f1)))] from rfl) (Reps.one (show Kd.M (Kd.int .i64) _ _ _ (wrap64 (((qd l0 x12_1).f0.f1)*((qd l0 x12_1).f0.f2))) [.int .i64 (wrap64 (((qd l0 x12_1).f0.f1)*((qd l0 x12_1).f0.f2)))] from rfl) (Reps.one (show Kd.M (Kd.int .i64) _ _ _ (wrap64 (((qd l0 x12_1).f0.f2)*((qd l0 x12_1).f0.f2))) [.int .i64 (wrap64 (((qd l0 x12_1).f0.f2)*((qd l0 x12_1).f0.f2)))] from rfl) (Reps.none _ _))))))));intro v386 w10 ho11 hb hg_ hnew_;clear hg_ hnew_;(first | rw[← Ny385.out]at ho11 | (simp only[Int.reduceToNat]at ho11;rw[← Ny385.out]at ho11));have n0_:=am (Kd.S_elder' (by (with_reducible repeat (first | apply Kd.S_alloc | apply Kd.S_drewN | apply Kd.S_drew));exact(Kd.S_mono (Kd.S_far (p:=⟨gb384,2,none⟩) (Kd.S_far (p:=⟨gb384,1,none⟩) (Kd.S_far (p:=⟨gb384,0,none⟩) (Kd.S_types HO_3.out BK384.out (by decide)) (fun _ hk=>hk.2) (.int .i64 ((qd l0 x12_1).f0.f0))) (fun _ hk=>hk.2) (.int .i64 ((qd l0 x12_1).f0.f1))) (fun _ hk=>hk.2) (.int .i64 ((qd l0 x12_1).f0.f2))) (fun _ h_=>h_.1))) (Kd.R_base ho11) hb);have n1_:=am (Kd.R_lower ho11 (zo (bx_ HB)));have n2_:=am (qv (g:=gb384) (o:=.cells #[.int .i64 ((qd l0 x12_1).f0.f0),.int .i64 ((qd l0 x12_1).f0.f1),.int .i64 ((qd l0 x12_1).f0.f2)] 43 (0,0)) (by (with_reducible repeat (first | refine qx ?_ _ | refine qw ?_ | refine qq ?_ _));refine Qu (cs:=#[.int .i64 ((qd l0 x12_1).f0.f0),.int .i64 ((qd l0 x12_1).f0.f1),.int .i64 0]) ?_ 2 _ rfl;(with_reducible repeat (first | refine qx ?_ _ | refine qw ?_ | refine qq ?_ _));refine Qu (cs:=#[.int .i64 ((qd l0 x12_1).f0.f0),.int .i64 0,.int .i64 0]) ?_ 1 _ rfl;(with_reducible repeat (first | refine qx ?_ _ | refine qw ?_ | refine qq ?_ _));refine Qu (cs:=#[.int .i64 0,.int .i64 0,.int .i64 0]) ?_ 0 _ rfl;(with_reducible repeat (first | refine qx ?_ _ | refine qw ?_ | refine qq ?_ _));exact BK384.out) hb);have n3_:=am (jg (bx_ HB) hb);clear HO_3;clear BK384;clear HB;have HO_3:=n0_;have HO387:=n1_;have BK384:=n2_;have HB:=n3_;clear n0_ n1_ n2_ n3_;clear hb ho11;obtain⟨Ao13,co13,eo13⟩:=Kd.R_slice HO387.out;subst eo13) | ((with_reducible refine jr (b:=.append) (xs:=#[.tmp 25,.tmp 45]) rfl ?_);at_builtin;refine Kd.S_append (Kd.slice 3 (Kd.int .i64)) (w0:=w) w.heap.size rfl (.tmp 25) (.tmp 45) 47 23 (.slice none 0 0) 24 rfl Try.underlying47 Zu rfl (by decide) (by omega) u3 x3_1 y385 [.slice Ao13 y385.length co13] (fun _=>True) (fun k_=>some k_=(.slice Ao13 y385.length co13:Value).ownBlock) rfl rfl ?aP (fun k_ hk_=>((Kd.R_mono (ok':=fun k_=>((fun _=>True)) k_∧some k_≠(u3:Value).ownBlock) (Kd.R_apart' (HO387.out) (Kd.S_typed HO_3.out) (by decide)) (fun k_ hk=>⟨trivial,hk.2⟩))).1 k_ hk_.symm) ?aF ?aO ?aB ?aS ?aL ?_;(case aP=>exact Kd.M_row (Kd.R_mono (Kd.R_tight rfl (Kd.R_mono (ok':=fun k_=>((fun _=>True)) k_∧some k_≠(u3:Value).ownBlock) (Kd.R_apart' (HO387.out) (Kd.S_typed HO_3.out) (by decide)) (fun k_ hk=>⟨trivial,hk.2⟩))) (fun _ h_=>h_)));(case aB=>exact(bx_ HB));(case aF=>exact(fun _ _=>trivial));(case aO=>exact(oS_ HO_3 (fun k_ hk=>⟨trivial,fun e_=>hk.2 e_⟩)));(case aS=>exact(zo (bx_ HB)));(case aL=>have:=LMc7.out;omega);intro v389 w12 ho hb hg hat;rw[← Ny388.out]at ho;have n0_:=am (Q2 (g:=gb384) (o:=.cells #[.int .i64 ((qd l0 x12_1).f0.f0),.int .i64 ((qd l0 x12_1).f0.f1),.int .i64 ((qd l0 x12_1).f0.f2)] 43 (0,0)) (pk_ BK384) hg (Kd.S_ne HO_3.out BK384.out (by decide)));have n1_:=am (hb);have n2_:=am (ho);clear BK384;clear HB;clear HO_3;clear HO387;have BK384:=n0_;have HB:=n1_;have HO390:=n2_;clear n0_ n1_ n2_;clear ho hb hg hat));try go_wp2_with (first | ((with_reducible refine zb (N:=5) rfl ?_);refine xe_ 5 43 #[.int .i64 0,.int .i64 0,.int .i64 0] ?_;intro gb384 hg w8 hbox hb;have n0_:=am (Kd.S_below (wS HO_3) hb);have n1_:=bq HB hb;have n2_:=am (hbox);have n3_:=am ((by rw[hg];exact(bz HB):w.heap.size≤gb384));have n4_:=am ((by rw[hg];exact(bz HB):w.heap.size≤gb384));clear HO_3;clear HB;have HO_3:=n0_;have HB:=n1_;have BK384:=n2_;have GW384:=n3_;have GE384:=n4_;clear n0_ n1_ n2_ n3_ n4_;clear hb hbox hg;have hcz9_0:w8.cell? ⟨gb384,0,none⟩=some (.int .i64 0):=(qe BK384.out 0).trans rfl;have hcz9_1:w8.cell? ⟨gb384,1,none⟩=some (.int .i64 0):=(qe BK384.out 1).trans rfl;have hcz9_2:w8.cell? ⟨gb384,2,none⟩=some (.int .i64 0):=(qe BK384.out 2).trans rfl;have hfz9_0:=ql BK384.out 0;have hfz9_1:=ql BK384.out 1;have hfz9_2:=ql BK384.out 2) | ((with_reducible refine zb (N:=44) rfl ?_);refine Kd.R_lit (Kd.int .i64) _ 3 ?hg (N:=44) ?hd (xs:=([wrap64 (((qd l0 x12_1).f0.f0)*((qd l0 x12_1).f0.f0)),wrap64 (((qd l0 x12_1).f0.f0)*((qd l0 x12_1).f0.f1)),wrap64 (((qd l0 x12_1).f0.f0)*((qd l0 x12_1).f0.f2)),wrap64 (((qd l0 x12_1).f0.f1)*((qd l0 x12_1).f0.f1)),wrap64 (((qd l0 x12_1).f0.f1)*((qd l0 x12_1).f0.f2)),wrap64 (((qd l0 x12_1).f0.f2)*((qd l0 x12_1).f0.f2))]:List Int)) (inner:=[.int .i64 (wrap64 (((qd l0 x12_1).f0.f0)*((qd l0 x12_1).f0.f0))),.int .i64 (wrap64 (((qd l0 x12_1).f0.f0)*((qd l0 x12_1).f0.f1))),.int .i64 (wrap64 (((qd l0 x12_1).f0.f0)*((qd l0 x12_1).f0.f2))),.int .i64 (wrap64 (((qd l0 x12_1).f0.f1)*((qd l0 x12_1).f0.f1))),.int .i64 (wrap64 (((qd l0 x12_1).f0.f1)*((qd l0 x12_1).f0.f2))),.int .i64 (wrap64 (((qd l0 x12_1).f0.f2)*((qd l0 x12_1).f0.f2)))]) (ok:=fun _=>True) (okp:=fun _=>True) ?hr ?hp (fun _ hk=>hk) trivial (Below.refl _ _) (Nat.le_refl _) (by simp) ?_;(case hd=>rfl);(case hg=>rfl);(case hr=>first | (go_simp;done) | (go_simp;rfl));(case hp=>exact(Reps.one (show Kd.M (Kd.int .i64) _ _ _ (wrap64 (((qd l0 x12_1).f0.f0)*((qd l0 x12_1).f0.f0))) [.int .i64 (wrap64 (((qd l0 x12_1).f0.f0)*((qd l0 x12_1).f0.f0)))] from rfl) (Reps.one (show Kd.M (Kd.int .i64) _ _ _ (wrap64 (((qd l0 x12_1).f0.f0)*((qd l0 x12_1).f0.f1))) [.int .i64 (wrap64 (((qd l0 x12_1).f0.f0)*((qd l0 x12_1).f0.f1)))] from rfl) (Reps.one (show Kd.M (Kd.int .i64) _ _ _ (wrap64 (((qd l0 x12_1).f0.f0)*((qd l0 x12_1).f0.f2))) [.int .i64 (wrap64 (((qd l0 x12_1).f0.f0)*((qd l0 x12_1).f0.f2)))] from rfl) (Reps.one (show Kd.M (Kd.int .i64) _ _ _ (wrap64 (((qd l0 x12_1).f0.f1)*((qd l0 x12_1).f0.f1))) [.int .i64 (wrap64 (((qd l0 x12_1).f0.f1)*((qd l0 x12_1).f0.f1)))] from rfl) (Reps.one (show Kd.M (Kd.int .i64) _ _ _ (wrap64 (((qd l0 x12_1).f0.f1)*((qd l0 x12_1).f0.f2))) [.int .i64 (wrap64 (((qd l0 x12_1).f0.f1)*((qd l0 x12_1).f0.f2)))] from rfl) (Reps.one (show Kd.M (Kd.int .i64) _ _ _ (wrap64 (((qd l0 x12_1).f0.f2)*((qd l0 x12_1).f0.f2))) [.int .i64 (wrap64 (((qd l0 x12_1).f0.f2)*((qd l0 x12_1).f0.f2)))] from rfl) (Reps.none _ _))))))));intro v386 w10 ho11 hb hg_ hnew_;clear hg_ hnew_;(first | rw[← Ny385.out]at ho11 | (simp only[Int.reduceToNat]at ho11;rw[← Ny385.out]at ho11));have n0_:=am (Kd.S_elder' (by (with_reducible repeat (first | apply Kd.S_alloc | apply Kd.S_drewN | apply Kd.S_drew));exact(Kd.S_mono (Kd.S_far (p:=⟨gb384,2,none⟩) (Kd.S_far (p:=⟨gb384,1,none⟩) (Kd.S_far (p:=⟨gb384,0,none⟩) (Kd.S_types HO_3.out BK384.out (by decide)) (fun _ hk=>hk.2) (.int .i64 ((qd l0 x12_1).f0.f0))) (fun _ hk=>hk.2) (.int .i64 ((qd l0 x12_1).f0.f1))) (fun _ hk=>hk.2) (.int .i64 ((qd l0 x12_1).f0.f2))) (fun _ h_=>h_.1))) (Kd.R_base ho11) hb);have n1_:=am (Kd.R_lower ho11 (zo (bx_ HB)));have n2_:=am (qv (g:=gb384) (o:=.cells #[.int .i64 ((qd l0 x12_1).f0.f0),.int .i64 ((qd l0 x12_1).f0.f1),.int .i64 ((qd l0 x12_1).f0.f2)] 43 (0,0)) (by (with_reducible repeat (first | refine qx ?_ _ | refine qw ?_ | refine qq ?_ _));refine Qu (cs:=#[.int .i64 ((qd l0 x12_1).f0.f0),.int .i64 ((qd l0 x12_1).f0.f1),.int .i64 0]) ?_ 2 _ rfl;(with_reducible repeat (first | refine qx ?_ _ | refine qw ?_ | refine qq ?_ _));refine Qu (cs:=#[.int .i64 ((qd l0 x12_1).f0.f0),.int .i64 0,.int .i64 0]) ?_ 1 _ rfl;(with_reducible repeat (first | refine qx ?_ _ | refine qw ?_ | refine qq ?_ _));refine Qu (cs:=#[.int .i64 0,.int .i64 0,.int .i64 0]) ?_ 0 _ rfl;(with_reducible repeat (first | refine qx ?_ _ | refine qw ?_ | refine qq ?_ _));exact BK384.out) hb);have n3_:=am (jg (bx_ HB) hb);clear HO_3;clear BK384;clear HB;have HO_3:=n0_;have HO387:=n1_;have BK384:=n2_;have HB:=n3_;clear n0_ n1_ n2_ n3_;clear hb ho11;obtain⟨Ao13,co13,eo13⟩:=Kd.R_slice HO387.out;subst eo13) | ((with_reducible refine jr (b:=.append) (xs:=#[.tmp 25,.tmp 45]) rfl ?_);at_builtin;refine Kd.S_append (Kd.slice 3 (Kd.int .i64)) (w0:=w) w.heap.size rfl (.tmp 25) (.tmp 45) 47 23 (.slice none 0 0) 24 rfl Try.underlying47 Zu rfl (by decide) (by omega) u3 x3_1 y385 [.slice Ao13 y385.length co13] (fun _=>True) (fun k_=>some k_=(.slice Ao13 y385.length co13:Value).ownBlock) rfl rfl ?aP (fun k_ hk_=>((Kd.R_mono (ok':=fun k_=>((fun _=>True)) k_∧some k_≠(u3:Value).ownBlock) (Kd.R_apart' (HO387.out) (Kd.S_typed HO_3.out) (by decide)) (fun k_ hk=>⟨trivial,hk.2⟩))).1 k_ hk_.symm) ?aF ?aO ?aB ?aS ?aL ?_;(case aP=>exact Kd.M_row (Kd.R_mono (Kd.R_tight rfl (Kd.R_mono (ok':=fun k_=>((fun _=>True)) k_∧some k_≠(u3:Value).ownBlock) (Kd.R_apart' (HO387.out) (Kd.S_typed HO_3.out) (by decide)) (fun k_ hk=>⟨trivial,hk.2⟩))) (fun _ h_=>h_)));(case aB=>exact(bx_ HB));(case aF=>exact(fun _ _=>trivial));(case aO=>exact(oS_ HO_3 (fun k_ hk=>⟨trivial,fun e_=>hk.2 e_⟩)));(case aS=>exact(zo (bx_ HB)));(case aL=>have:=LMc7.out;omega);intro v389 w12 ho hb hg hat;rw[← Ny388.out]at ho;have n0_:=am (Q2 (g:=gb384) (o:=.cells #[.int .i64 ((qd l0 x12_1).f0.f0),.int .i64 ((qd l0 x12_1).f0.f1),.int .i64 ((qd l0 x12_1).f0.f2)] 43 (0,0)) (pk_ BK384) hg (Kd.S_ne HO_3.out BK384.out (by decide)));have n1_:=am (hb);have n2_:=am (ho);clear BK384;clear HB;clear HO_3;clear HO387;have BK384:=n0_;have HB:=n1_;have HO390:=n2_;clear n0_ n1_ n2_;clear ho hb hg hat)))
    go_roundg k1
    case measure=>have:=HK1.out;omega
    case rel=>exact⟨(y388),(wrap64 (x12_1+1)),fr,H',⟨by have:=HK1.out;omega⟩,⟨wS HO390⟩,⟨bx_ HB⟩⟩
   ·rw[if_neg c4]at H
    have c4b0:=decide_eq_false c4;clear c4;obtain rfl:=Option.some.inj H;go_wp2
    repeat (go_quiet (fail);try go_wp2)
    go_ret
    exact⟨_,fq,wS HO_3,bw HB⟩
def j3.f (k:Nat) (a0:Int) (l1:List (S43)):Option (Bool):=if (l1.length:Int)=6 then ((jq.f k a0 l1).bind fun t391=>(if t391=true then ((zn.f k l1).bind fun t392=>((qh.f k a0 t392 6).bind fun t395=>(some ((t395.length:Int) == 0)))) else (some false))) else (some false)
theorem j3.mono :∀ a0 a1 k,LeO (j3.f k a0 a1) (j3.f (k+1) a0 a1):=by
 intro a0 a1 k
 unfold j3.f
 repeat' first | (with_reducible first | apply jq.mono | apply qh.mono | apply zn.mono | exact LeO.refl _ | exact LeO.none _ | refine LeO.ite ?_ ?_ | refine LeO.bind ?_ (fun _=>?_)) | (first | apply jq.mono | apply qh.mono | apply zn.mono | exact LeO.none _ | refine LeO.ite ?_ ?_ | refine LeO.bind ?_ (fun _=>?_))
theorem j3.calls (k:Nat) (a0:Int) (A1:Option Addr) (c1:Nat) (l1:List (S43)) (r:Bool) (w:World) (hr1:Kd.C k43 w A1 l1.length l1) (hc1:l1.length≤c1) (h:j3.f k a0 l1=some r):
  Calls Try.prog 65 #[.int .i64 a0,.slice A1 l1.length c1] w fun e w'=>e=.returned (.bool r)∧Below w.heap.size w w':=by
 have HR1:=am hr1
 have HC1:=am hc1
 clear hr1 hc1
 have HB:=am (Below.refl w.heap.size w)
 have H:(if (l1.length:Int)=6 then ((jq.f k a0 l1).bind fun t391=>(if t391=true then ((zn.f k l1).bind fun t392=>((qh.f k a0 t392 6).bind fun t395=>(some ((t395.length:Int) == 0)))) else (some false))) else (some false))=some r:=h
 clear h
 by_cases c3:(l1.length:Int)=6
 ·rw[if_pos c3]at H
  have c3b0:=beq_iff_eq.mpr c3;have c3b1:=bne_eq_false_iff_eq.mpr c3;clear c3;replace H:=bs H;obtain⟨t391,A4,H⟩:=H
  by_cases c5:t391=true
  ·subst c5
   rw[if_pos rfl]at H
   replace H:=bs H;obtain⟨t392,A6,H⟩:=H;replace H:=bs H;obtain⟨t395,A7,H⟩:=H;obtain rfl:=Option.some.inj H
   go_enter Try.func65,Try.ntmps65
   go_wp2_with (first | (go_at_call 111;(with_reducible refine(jq.calls k a0 _ _ l1 true _ ?_ ?_ A4.out).mono ?_);exact wC HR1;exact HC1.out;rintro e w8 ⟨rfl,hb⟩;replace HB:=bq HB hb;(try clear hb)) | (go_at_call 113;(with_reducible refine(zn.calls k _ _ l1 t392 _ ?_ ?_ A6.out).mono ?_);exact Kd.C_below HR1.out (bw HB);exact HC1.out;rintro e w9 ⟨v393,rfl,ho0,hb⟩;have HO394:=am (Kd.S_lower ho0 (bz HB));replace HB:=bq HB hb;(try clear hb);(try clear ho0);obtain⟨Ao10,co10,eo10⟩:=Kd.S_slice HO394.out;subst eo10) | (go_at_call 112;(with_reducible refine(qh.calls k a0 _ _ t392 6 t395 _ ?_ ?_ A7.out).mono ?_);exact Kd.C_below (Kd.S_reads' HO394.out).2.2 gs;exact(Kd.S_reads' HO394.out).2.1;rintro e w11 ⟨v396,rfl,ho0,hb⟩;have HO397:=am (Kd.S_lower (Kd.S_new' ho0 (Kd.S_lt (wS HO394))) (bz HB));replace HO394:=eS HO394 (Kd.S_base ho0) hb;replace HB:=bq HB hb;(try clear hb);(try clear ho0);obtain⟨Ao12,co12,eo12⟩:=Kd.S_slice HO397.out;subst eo12))
   go_ret
   exact⟨fq,bw HB⟩
  ·replace c5:=Bool.eq_false_iff.mpr c5
   subst c5
   rw[if_neg (show ¬ (false=true) by decide)]at H
   obtain rfl:=Option.some.inj H
   go_enter Try.func65,Try.ntmps65
   go_wp2_with (first | (go_at_call 111;(with_reducible refine(jq.calls k a0 _ _ l1 false _ ?_ ?_ A4.out).mono ?_);exact wC HR1;exact HC1.out;rintro e w13 ⟨rfl,hb⟩;replace HB:=bq HB hb;(try clear hb)))
   go_ret
   exact⟨fq,bw HB⟩
 ·rw[if_neg c3]at H
  have c3b0:=beq_eq_false_iff_ne.mpr c3;have c3b1:=bne_iff_ne.mpr c3;obtain rfl:=Option.some.inj H
  go_enter Try.func65,Try.ntmps65
  go_wp2;go_ret
  exact⟨fq,bw HB⟩
def z8.l0 :Nat→Int→Int→Int→Int→Option (Int)
 | 0,_,_,_,_=>none
 | k+1,x0,x5,x6,x7=>if x7 < x6 then (z8.l0 k x0 (wrap64 (x5*x0)) x6 (wrap64 (x7+1))) else (some x5)
def z8.f (k:Nat) (a0:Int) (a1:Int):Option (Int):=z8.l0 k a0 1 a1 0
theorem z8.mono_l :∀ k,(∀ y0 y1 y2 y3,LeO (z8.l0 k y0 y1 y2 y3) (z8.l0 (k+1) y0 y1 y2 y3))
 | 0=>fun _ _ _ _ r h=>by simp[z8.l0]at h
 | k+1=>by
  have ih0:=z8.mono_l k
  ·intro y0 y1 y2 y3
   unfold z8.l0
   repeat' first | (with_reducible first | apply ih0 | exact LeO.refl _ | exact LeO.none _ | refine LeO.ite ?_ ?_ | refine LeO.bind ?_ (fun _=>?_)) | (first | apply ih0 | exact LeO.none _ | refine LeO.ite ?_ ?_ | refine LeO.bind ?_ (fun _=>?_))
theorem z8.mono :∀ a0 a1 k,LeO (z8.f k a0 a1) (z8.f (k+1) a0 a1):=by
 intro a0 a1 k
 have ih0:=z8.mono_l k
 unfold z8.f
 repeat' first | (with_reducible first | apply ih0 | exact LeO.refl _ | exact LeO.none _ | refine LeO.ite ?_ ?_ | refine LeO.bind ?_ (fun _=>?_)) | (first | apply ih0 | exact LeO.none _ | refine LeO.ite ?_ ?_ | refine LeO.bind ?_ (fun _=>?_))
theorem z8.calls (k:Nat) (a0:Int) (a1:Int) (r:Int) (w:World) (h:z8.f k a0 a1=some r):
  Calls Try.prog 102 #[.int .i64 a0,.int .i64 a1] w fun e w'=>e=.returned (.int .i64 r)∧Drawn0 w w':=by
 have H:(z8.l0 k a0 1 a1 0)=some r:=h
 clear h;have H':=am H;clear H
 go_enter Try.func102,Try.ntmps102
 go_wp2
 go_loopg [5,7] k (fun kq v5 v7 w'=>∃ (x5_1:Int) (x7_1:Int),v5=.int .i64 x5_1∧v7=.int .i64 x7_1∧qf (z8.l0 kq a0 x5_1 a1 x7_1=some r)∧qf (kq≤k)∧Drawn0 w w')
 case atStart=>exact⟨(1),(0),fr,fr,H',⟨Nat.le_refl _⟩,df⟩
 case round=>
  clear H';try clear c1;try clear p2
  obtain⟨x5_1,x7_1,rfl,rfl,HA,HK1,⟨m1,rfl⟩⟩:=hrel
  cases gk with
  | zero=>exact absurd HA.out (by simp[z8.l0])
  | succ k1=>
   have H:=HA.out;clear HA
   simp only[z8.l0]at H
   by_cases c3:x7_1 < a1
   ·rw[if_pos c3]at H
    have c3b0:=decide_eq_true c3;clear c3;have H':=am H;clear H;go_wp2
    go_roundg k1
    case measure=>have:=HK1.out;omega
    case rel=>exact⟨(wrap64 (x5_1*a0)),(wrap64 (x7_1+1)),fr,fr,H',⟨by have:=HK1.out;omega⟩,df⟩
   ·rw[if_neg c3]at H
    have c3b0:=decide_eq_false c3;clear c3;obtain rfl:=Option.some.inj H;go_wp2;go_ret
    exact⟨fr,df⟩
mutual
def q9.l0 :Nat→List (S41)→Int→Option ((List (S41)))
 | 0,_,_=>none
 | k+1,x1,x2=>if x2≥0 then (q9.l1 k x1 x2 (wrap64 (3 - x2))) else (some x1)
def q9.l1 :Nat→List (S41)→Int→Int→Option ((List (S41)))
 | 0,_,_,_=>none
 | k+1,x1,x2,x3=>if x3≥0 then (if x1.length < 5864062014805 then (q9.l1 k (x1++[(⟨x2,x3,wrap64 ((wrap64 (3 - x2)) - x3)⟩:S41)]) x2 (wrap64 (x3 - 1))) else (none)) else (q9.l0 k x1 (wrap64 (x2 - 1)))
end
def q9.f (k:Nat):Option ((List (S41))):=q9.l0 k (([]:List (S41))) 3
theorem q9.mono_l :∀ k,(∀ y0 y1,LeO (q9.l0 k y0 y1) (q9.l0 (k+1) y0 y1))∧(∀ y0 y1 y2,LeO (q9.l1 k y0 y1 y2) (q9.l1 (k+1) y0 y1 y2))
 | 0=>⟨fun _ _ r h=>by simp[q9.l0]at h,fun _ _ _ r h=>by simp[q9.l1]at h⟩
 | k+1=>by
  obtain⟨ih0,ih1⟩:=q9.mono_l k
  refine⟨?_,?_⟩
  ·intro y0 y1
   unfold q9.l0
   repeat' first | (with_reducible first | apply ih0 | apply ih1 | exact LeO.refl _ | exact LeO.none _ | refine LeO.ite ?_ ?_ | refine LeO.bind ?_ (fun _=>?_)) | (first | apply ih0 | apply ih1 | exact LeO.none _ | refine LeO.ite ?_ ?_ | refine LeO.bind ?_ (fun _=>?_))
  ·intro y0 y1 y2
   unfold q9.l1
   repeat' first | (with_reducible first | apply ih0 | apply ih1 | exact LeO.refl _ | exact LeO.none _ | refine LeO.ite ?_ ?_ | refine LeO.bind ?_ (fun _=>?_)) | (first | apply ih0 | apply ih1 | exact LeO.none _ | refine LeO.ite ?_ ?_ | refine LeO.bind ?_ (fun _=>?_))
theorem q9.mono :∀ k,LeO (q9.f k ) (q9.f (k+1) ):=by
 intro  k
 obtain⟨ih0,ih1⟩:=q9.mono_l k
 unfold q9.f
 repeat' first | (with_reducible first | apply ih0 | apply ih1 | exact LeO.refl _ | exact LeO.none _ | refine LeO.ite ?_ ?_ | refine LeO.bind ?_ (fun _=>?_)) | (first | apply ih0 | apply ih1 | exact LeO.none _ | refine LeO.ite ?_ ?_ | refine LeO.bind ?_ (fun _=>?_))
theorem q9.calls (k:Nat)  (r:List (S41)) (w:World) (h:q9.f k=some r):
  Calls Try.prog 114 #[] w fun e w'=>∃ v0_:Value,e=.returned (v0_)∧Kd.R k41 41 w' w.heap.size (fun _=>True) v0_ r∧Below w.heap.size w w':=by
 have hu41:=Try.underlying41
 have HB:=am (Below.refl w.heap.size w)
 have H:(q9.l0 k (([]:List (S41))) 3)=some r:=h
 clear h
 generalize hy398:(([]:List (S41)))=y398 at H
 have Ny398:=am hy398.symm;clear hy398;have H':=am H;clear H
 go_enter Try.func114,Try.ntmps114
 go_wp2_with (first | ((with_reducible refine zb (N:=4) rfl ?_);refine Kd.R_lit k41 _ 41 ?hg (N:=4) ?hd (xs:=([]:List (S41))) (inner:=[]) (ok:=fun _=>True) (okp:=fun _=>True) ?hr ?hp (fun _ hk=>hk) trivial (Below.refl _ _) (Nat.le_refl _) (by simp) ?_;(case hd=>rfl);(case hg=>rfl);(case hr=>first | (go_simp;done) | (go_simp;rfl));(case hp=>exact(Reps.none _ _));intro v399 w1 ho2 hb hg_ hnew_;clear hg_ hnew_;(first | rw[← Ny398.out]at ho2 | (simp only[Int.reduceToNat]at ho2;rw[← Ny398.out]at ho2));have HO400:=am (Kd.R_lower ho2 (bz HB));replace HB:=bq HB hb;clear hb ho2))
 go_loopg [1,2] k (fun kq v1 v2 w'=>∃ (x1_1:List (S41)) (x2_1:Int),v2=.int .i64 x2_1∧qf (q9.l0 kq x1_1 x2_1=some r)∧qf (kq≤k)∧qf (Kd.R k41 41 w' w.heap.size (fun _=>True) v1 x1_1)∧qf (Below w.heap.size w w'))
 case atStart=>exact⟨(y398),(3),fr,H',⟨Nat.le_refl _⟩,⟨wR HO400⟩,⟨bw HB⟩⟩
 case round=>
  clear H';try clear c1;try clear p2
  obtain⟨x1_1,x2_1,rfl,HA,HK1,HO_1,HB⟩:=hrel
  cases gk with
  | zero=>exact absurd HA.out (by simp[q9.l0])
  | succ k1=>
   have H:=HA.out;clear HA
   simp only[q9.l0]at H
   by_cases c3:x2_1≥0
   ·rw [if_pos c3] at H
    have c3b0:=decide_eq_true c3;clear c3;have H':=am H;clear H;go_wp2
    go_loopg [1,3] k1 (fun kq v1 v3 w'=>∃ (x1_2:List (S41)) (x3_2:Int),v3=.int .i64 x3_2∧qf (q9.l1 kq x1_2 x2_1 x3_2=some r)∧qf (kq≤k1)∧qf (Kd.R k41 41 w' w.heap.size (fun _=>True) v1 x1_2)∧qf (Below w.heap.size w w'))
    case atStart=>exact⟨(x1_1),(wrap64 (3 - x2_1)),fr,H',⟨Nat.le_refl _⟩,⟨wR HO_1⟩,⟨bw HB⟩⟩
    case round=>
     clear H';try clear c1;try clear p2;try clear c3;try clear c3b0;try clear p2
     obtain⟨x1_2,x3_2,rfl,HA,HK2,HO_1,HB⟩:=hrel
     cases gk with
     | zero=>exact absurd HA.out (by simp[q9.l1])
     | succ k2=>
      have H:=HA.out;clear HA
      simp only[q9.l1]at H
      by_cases c4:x3_2≥0
      ·rw[if_pos c4]at H
       have c4b0:=decide_eq_true c4;clear c4;replace H:=ifn H;obtain⟨c5,H⟩:=H;have LMc5:=am c5;clear c5
       generalize hy401:(x1_2++[(⟨x2_1,x3_2,wrap64 ((wrap64 (3 - x2_1)) - x3_2)⟩:S41)]:List (S41))=y401 at H
       have Ny401:=am hy401.symm;clear hy401;have H':=am H;clear H
       go_wp2_with (first | ((with_reducible refine jr (b:=.append) (xs:=#[.tmp 15,.tmp 23]) rfl ?_);at_builtin;refine Kd.R_append k41 (w0:=w) w.heap.size rfl (.tmp 15) (.tmp 23) 99 41 (.agg #[(.int .i64 0),(.int .i64 0),(.int .i64 0)]) 24 rfl Try.underlying99 info41 rfl (by decide) (by omega) u1 x1_2 (⟨x2_1,x3_2,wrap64 ((wrap64 (3 - x2_1)) - x3_2)⟩:S41) [.int .i64 x2_1,.int .i64 x3_2,.int .i64 (wrap64 ((wrap64 (3 - x2_1)) - x3_2))] (fun _=>True) (fun _=>False) rfl rfl ?aP (fun _ hk=>hk.elim) ?aF ?aO ?aB ?aS ?aL ?_;(case aP=>exact Ji _ _ _ (⟨x2_1,x3_2,wrap64 ((wrap64 (3 - x2_1)) - x3_2)⟩:S41));(case aB=>exact(bw HB));(case aF=>exact(fun _ _=>trivial));(case aO=>exact(wR HO_1));(case aS=>exact(bz HB));(case aL=>have:=LMc5.out;omega);intro v402 w6 ho hb hg hat;rw[← Ny401.out]at ho;replace HB:=am (hb);have HO403:=am (ho);clear HO_1;clear ho hb hg hat))
       go_roundg k2
       case measure=>have:=HK1.out;have:=HK2.out;omega
       case rel=>exact⟨(y401),(wrap64 (x3_2 - 1)),fr,H',⟨by have:=HK1.out;have:=HK2.out;omega⟩,⟨wR HO403⟩,⟨bw HB⟩⟩
      ·rw[if_neg c4]at H
       have c4b0:=decide_eq_false c4;clear c4;have H':=am H;clear H;go_wp2
       go_roundg k2
       case measure=>have:=HK1.out;have:=HK2.out;omega
       case rel=>exact⟨(x1_2),(wrap64 (x2_1 - 1)),fr,H',⟨by have:=HK1.out;have:=HK2.out;omega⟩,⟨wR HO_1⟩,⟨bw HB⟩⟩
   ·rw[if_neg c3]at H
    have c3b0:=decide_eq_false c3;clear c3;obtain rfl:=Option.some.inj H;go_wp2;go_ret
    exact⟨_,fq,wR HO_1,bw HB⟩
end Go.Proofs.Ytmgbpmihbljngaa.PA
