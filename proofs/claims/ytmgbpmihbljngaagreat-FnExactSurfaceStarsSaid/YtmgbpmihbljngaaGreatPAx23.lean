-- by xprint.py and mergepa.py
import Derived.Test.YtmgbpmihbljngaaGreatPAx20
namespace Go.Proofs.YtmgbpmihbljngaaGreat.PA
open Value (int)
open IntKind (i64)
set_option maxHeartbeats 8000000
set_option maxRecDepth 100000
open RowKit YtmgbpmihbljngaaGreatW.PrintWords YtmgbpmihbljngaaGreatW.PrintLast YtmgbpmihbljngaaGreatW.PrintMore
attribute [local go_sem] Q3 Q0 Zk Zj Qo Qp Q5 Q4 Tryz.underlying49 Tryz.underlying51
set_option linter.unusedVariables false
set_option linter.unusedSimpArgs false
def jk.l0 :Nat->List Int->List (S49)->Int->Int->Int->Int->Int->Option (List Int)
 | 0,_,_,_,_,_,_,_=>none
 | k+1,x3,x7,x8,x9,x456000,x456001,x456002=>if x9 < x8 then (if 0<=x9 then (if x9 < (x7.length:Int) then ((jp.f k x456000 ((zp x7 x9).f0)).bind λt464=>((jp.f k x456001 ((zp x7 x9).f1)).bind λt465=>((jp.f k x456002 ((zp x7 x9).f2)).bind λt466=>(if x3.length < 17592186044416 then (jk.l0 k (x3++[wrap64 ((wrap64 (t464*t465))*t466)]) x7 x8 (wrap64 (x9+1)) x456000 x456001 x456002) else (none))))) else (none)) else (none)) else (some x3)
def jk.f (k:Nat) (a0_0:Int) (a0_1:Int) (a0_2:Int):Option (List Int):=(zg.f k).bind λt459=>(jk.l0 k (([]:List Int)) t459 (t459.length:Int) 0 a0_0 a0_1 a0_2)
theorem jk.Ag :∀ k,(∀ y0 y1 y2 y3 y4 y5 y6,LeO (jk.l0 k y0 y1 y2 y3 y4 y5 y6) (jk.l0 (k+1) y0 y1 y2 y3 y4 y5 y6))
 | 0=>λ_ _ _ _ _ _ _ r h=>by simp[jk.l0]at h
 | k+1=>by
  have ih0:=jk.Ag k
  ·intro y0 y1 y2 y3 y4 y5 y6
   unfold jk.l0
   repeat' with_reducible first|intro _|apply ih0|apply zg.mono|apply jp.mono|apply Eb|apply Ec|apply Ed|apply Ee
theorem jk.mono (a0 a1 a2 k):LeO (jk.f k a0 a1 a2) (jk.f (k+1) a0 a1 a2):=by
 have ih0:=jk.Ag k;unfold jk.f
 repeat' with_reducible first|intro _|apply ih0|apply zg.mono|apply jp.mono|apply Eb|apply Ec|apply Ed|apply Ee
def jk.T5 :Bool×List (List Nat×List Nat):=(true,[([],[]),([],[]),([1],[1]),([2],[2]),([],[]),([4],[4]),([3,5],[3,5]),([],[]),([7],[7]),([8],[8]),([],[]),([10],[10]),([9,11,6],[9,11]),([6,12],[6,12]),([],[]),([14],[14]),([15],[15]),([],[]),([17],[17]),([16,18,12],[16,18]),([13,19],[13,19]),([20],[20]),([0,21,19],[0,21]),([22,22,0,1,2,3,4,5,6,7,8,9,10,11,12,13,14,15,16,17,18,19,20,21,22],[0,22])])
def jk.B5 :List Nat:=[0,0,2,6,0,16,62,0,128,384,0,1024,4094,8190,0,16384,49152,0,131072,516094,1048574,2097150,4194303,8388607]
theorem jk.calls (k:Nat) (a0_0:Int) (a0_1:Int) (a0_2:Int) (r:List Int) (w:World) (h:jk.f k a0_0 a0_1 a0_2=some r):
  Calls Tryz.prog 68 #[.agg #[int i64 a0_0,int i64 a0_1,int i64 a0_2]] w λe w'=>∃ v0_:Value,e=.returned (v0_)/\Kd.R (Kd.int i64) 3 w' w.heap.size (λ_=>True) v0_ r/\Below w.heap.size w w':=by
 have HB:=Em w;have H:=h;unfold jk.f at H;clear h;generalize hy456:(([]:List Int))=y456 at H;have Ny456:=am hy456.symm;clear hy456;replace H:=bs H;obtain⟨t459,A2,H⟩:=H;have H':=am H;clear H;go_enter Tryz.func68,Tryz.ntmps68
 go_wp2_with (first|((with_reducible refine zd (N:=1) rfl ?_);refine xe_ 1 51 #[int i64 a0_0,int i64 a0_1,int i64 a0_2] ?_;intro gb455 hg w3 hbox hb;have BK455:=am (hbox);have GW455:=Ek HB hg;replace HB:=bq HB hb;clear hb hbox hg)|((with_reducible refine zd (N:=6) rfl ?_);refine li 3 ([]:List Int) ?_;intro v457 w4 ho5 hb;rw[<-Ny456.out]at ho5;have HO458:=am (Kd.Ai ho5 (zw (bx_ HB)));replace BK455:=Ej BK455 hb;replace HB:=am (ze (bx_ HB) hb);clear hb ho5)|((with_reducible refine za (f:=109) rfl ?_);refine gl 7 Tryz.func109 #[] ?_;(with_reducible refine(zg.calls k  t459 _ A2.out).mono ?_);rintro e w6 ⟨v460,rfl,ho0,hb⟩;refine⟨_,rfl,?_⟩;replace HO458:=am (Kd.Af (wR HO458) hb);have HO461:=am (Kd.Ai ho0 (zw (bx_ HB)));replace BK455:=Ej BK455 hb;replace HB:=am (ze (bx_ HB) hb);(try clear hb);(try clear ho0);obtain⟨Ao7,co7,eo7⟩:=Kd.Ah HO461.out;subst eo7))
 go_loopg [3,9] k (λkq v3 v9 w'=>∃ (x3_1:List Int) (x9_1:Int),v9=int i64 x9_1/\qf (jk.l0 kq x3_1 t459 (t459.length:Int) x9_1 a0_0 a0_1 a0_2=some r)/\qf (kq<=k)/\qf (Kd.R (Kd.int i64) 3 w' w.heap.size (λ_=>True) v3 x3_1)/\qf (Kd.R k49 49 w' w.heap.size (λ_=>True) (.slice Ao7 t459.length co7) t459)/\qf (w'.heap[gb455]? =some (.cells #[int i64 a0_0,int i64 a0_1,int i64 a0_2] 51 (0,0)))/\qf (Below w.heap.size w w'))
 case atStart=>exact⟨(y456),(0),fr,H',⟨Nat.le_refl _⟩,⟨wR HO458⟩,⟨wR HO461⟩,⟨by (with_reducible repeat (first|refine qw ?_ _|refine qy ?_|refine qx ?_ _));exact BK455.out⟩,⟨bx_ HB⟩⟩
 case round=>
  clear H';try clear c1;try clear p2;try clear c6
  obtain⟨x3_1,x9_1,rfl,HA,HK1,HO_3,HO_7,BK455,HB⟩:=hrel
  cases gk with
  | zero=>exact absurd HA.out (by simp[jk.l0])
  | succ k1=>
   have H:=HA.out;clear HA;simp only[jk.l0]at H;replace H:=Eg H;rcases H with ⟨c8b0,H⟩|⟨c8b0,H⟩
   ·replace H:=Ef H;obtain⟨c9b0,H⟩:=H;replace H:=Ef H;obtain⟨c10b0,H⟩:=H;replace H:=bs H;obtain⟨t464,A11,H⟩:=H
    replace H:=bs H;obtain⟨t465,A12,H⟩:=H;replace H:=bs H;obtain⟨t466,A13,H⟩:=H;replace H:=ifn H;obtain⟨c14,H⟩:=H;have LMc14:=am c14;clear c14;generalize hy467:(x3_1++[wrap64 ((wrap64 (t464*t465))*t466)]:List Int)=y467 at H;have Ny467:=am hy467.symm;clear hy467;have H':=am H;clear H;have p462:0<=(x9_1:Int):=od;have q462:x9_1 < (t459.length:Int):=od;obtain⟨ad462,e462,hx462_0,hx462_1,hx462_2⟩:=qlo (Kd.Ac HO_7.out).2.2 x9_1 p462 q462
    cases e462;replace p462:=eq_true p462;replace q462:=eq_true q462
    try go_wp2_with (first|((with_reducible refine zd (N:=5) rfl ?_);refine xe_ 5 49 #[int i64 0,int i64 0,int i64 0] ?_;intro gb463 hg w15 hbox hb;replace HO_3:=am (Kd.Af (wR HO_3) hb);replace HO_7:=am (Kd.Af (Kd.Cu (wR HO_7) gb463 (Nat.le_of_eq hg.symm)) hb);have BK463:=am (hbox);have GW463:=am ((by rw[hg];exact(zw (bx_ HB)):w.heap.size<=gb463));replace HB:=am (ze (bx_ HB) hb);have NB455_463:=Eh BK455 hg;have NB463_455:=Ei BK455 hg;replace BK455:=Ej BK455 hb;clear hb hbox hg;have hnb16:=NB463_455.out;have hnc16:=NB455_463.out;have hcz17_0:=En BK463.out;have hcz17_1:=Eo BK463.out;have hcz17_2:=Ep BK463.out;have hfz17_0:=ql BK463.out 0;have hfz17_1:=ql BK463.out 1;have hfz17_2:=ql BK463.out 2))
    have n0_:qf (Kd.R (Kd.int i64) 3 (((w15.setCell ⟨gb463,0,none⟩ (int i64 ((zp t459 x9_1).f0))).setCell ⟨gb463,1,none⟩ (int i64 ((zp t459 x9_1).f1))).setCell ⟨gb463,2,none⟩ (int i64 ((zp t459 x9_1).f2))) w.heap.size (λ_=>True) u3 x3_1):=⟨by (with_reducible repeat (first|apply Kd.AN|apply Kd.AM|apply Kd.Ay));exact Kd.Ae (Kd.AZ (p:=⟨gb463,2,none⟩) (Kd.AZ (p:=⟨gb463,1,none⟩) (Kd.AZ (p:=⟨gb463,0,none⟩) (Kd.BA HO_3.out BK463.out (by decide)) (λ_ hk=>hk.2) (int i64 ((zp t459 x9_1).f0))) (λ_ hk=>hk.2) (int i64 ((zp t459 x9_1).f1))) (λ_ hk=>hk.2) (int i64 ((zp t459 x9_1).f2))) (λ_ hk=>trivial)⟩
    have n1_:qf (Kd.R k49 49 (((w15.setCell ⟨gb463,0,none⟩ (int i64 ((zp t459 x9_1).f0))).setCell ⟨gb463,1,none⟩ (int i64 ((zp t459 x9_1).f1))).setCell ⟨gb463,2,none⟩ (int i64 ((zp t459 x9_1).f2))) w.heap.size (λk_=>k_≠gb463) (.slice (some ad462) t459.length co7) t459):=⟨by (with_reducible repeat (first|apply Kd.AN|apply Kd.AM|apply Kd.Ay));exact Kd.Ae (Kd.AZ (p:=⟨gb463,2,none⟩) (Kd.AZ (p:=⟨gb463,1,none⟩) (Kd.AZ (p:=⟨gb463,0,none⟩) (Kd.Ae HO_7.out (λk_ hk=>(⟨hk,hk.2⟩:_/\k_≠gb463))) (λ_ hk=>hk.2) (int i64 ((zp t459 x9_1).f0))) (λ_ hk=>hk.2) (int i64 ((zp t459 x9_1).f1))) (λ_ hk=>hk.2) (int i64 ((zp t459 x9_1).f2))) (λ_ hk=>hk.1.2)⟩
    have n2_:qf ((((w15.setCell ⟨gb463,0,none⟩ (int i64 ((zp t459 x9_1).f0))).setCell ⟨gb463,1,none⟩ (int i64 ((zp t459 x9_1).f1))).setCell ⟨gb463,2,none⟩ (int i64 ((zp t459 x9_1).f2))).heap[gb455]? =some (.cells #[int i64 a0_0,int i64 a0_1,int i64 a0_2] 51 (0,0))):=⟨by (with_reducible repeat (first|refine qw ?_ _|refine qy ?_|refine qx ?_ _));refine jh ?_ NB455_463.out _;(with_reducible repeat (first|refine qw ?_ _|refine qy ?_|refine qx ?_ _));refine jh ?_ NB455_463.out _;(with_reducible repeat (first|refine qw ?_ _|refine qy ?_|refine qx ?_ _));refine jh ?_ NB455_463.out _;(with_reducible repeat (first|refine qw ?_ _|refine qy ?_|refine qx ?_ _));exact BK455.out⟩
    have n3_:qf ((((w15.setCell ⟨gb463,0,none⟩ (int i64 ((zp t459 x9_1).f0))).setCell ⟨gb463,1,none⟩ (int i64 ((zp t459 x9_1).f1))).setCell ⟨gb463,2,none⟩ (int i64 ((zp t459 x9_1).f2))).heap[gb463]? =some (.cells #[int i64 ((zp t459 x9_1).f0),int i64 ((zp t459 x9_1).f1),int i64 ((zp t459 x9_1).f2)] 49 (0,0))):=⟨by (with_reducible repeat (first|refine qw ?_ _|refine qy ?_|refine qx ?_ _));refine Zf (cs:=#[int i64 ((zp t459 x9_1).f0),int i64 ((zp t459 x9_1).f1),int i64 0]) ?_ 2 _ rfl;(with_reducible repeat (first|refine qw ?_ _|refine qy ?_|refine qx ?_ _));refine Zf (cs:=#[int i64 ((zp t459 x9_1).f0),int i64 0,int i64 0]) ?_ 1 _ rfl;(with_reducible repeat (first|refine qw ?_ _|refine qy ?_|refine qx ?_ _));refine Zf (cs:=#[int i64 0,int i64 0,int i64 0]) ?_ 0 _ rfl;(with_reducible repeat (first|refine qw ?_ _|refine qy ?_|refine qx ?_ _));exact BK463.out⟩
    have n4_:qf (Below w.heap.size w (((w15.setCell ⟨gb463,0,none⟩ (int i64 ((zp t459 x9_1).f0))).setCell ⟨gb463,1,none⟩ (int i64 ((zp t459 x9_1).f1))).setCell ⟨gb463,2,none⟩ (int i64 ((zp t459 x9_1).f2)))):=⟨bx_ HB⟩
    (try clear HO_3)
    (try clear HO_7)
    (try clear BK455)
    (try clear BK463)
    (try clear HB)
    generalize (((w15.setCell ⟨gb463,0,none⟩ (int i64 ((zp t459 x9_1).f0))).setCell ⟨gb463,1,none⟩ (int i64 ((zp t459 x9_1).f1))).setCell ⟨gb463,2,none⟩ (int i64 ((zp t459 x9_1).f2)))=w18 at n0_ n1_ n2_ n3_ n4_ ⊢;have HO_3:=n0_;have HO_7:=n1_;have BK455:=n2_;have BK463:=n3_;have HB:=n4_;clear n0_ n1_ n2_ n3_ n4_;replace HO_3:=am (Kd.Ay HO_3.out);replace HO_7:=am (Kd.Ay HO_7.out);replace BK455:=am (qy BK455.out);replace BK463:=am (qy BK463.out);replace HB:=am (Qn HB.out);refine st (T:=jk.T5) (B:=jk.B5) 24 (λw'=>w'.cell? ⟨gb455,0,none⟩=some (int i64 a0_0)/\w'.cell? ⟨gb455,1,none⟩=some (int i64 a0_1)/\w'.cell? ⟨gb455,2,none⟩=some (int i64 a0_2)/\w'.cell? ⟨gb463,0,none⟩=some (int i64 ((zp t459 x9_1).f0))/\w'.cell? ⟨gb463,1,none⟩=some (int i64 ((zp t459 x9_1).f1))/\w'.cell? ⟨gb463,2,none⟩=some (int i64 ((zp t459 x9_1).f2))) [] (by kernel_rfl) (by kernel_rfl) (⟨(qe BK455.out 0).trans rfl,(qe BK455.out 1).trans rfl,(qe BK455.out 2).trans rfl,(qe BK463.out 0).trans rfl,(qe BK463.out 1).trans rfl,(qe BK463.out 2).trans rfl⟩) λhHeld HT_ HW_=>?_;generalize w18.drew=w19 at HO_3 HO_7 BK455 BK463 HB hHeld ⊢;refine Et 0 13 1 14 HT_ ?_;refine Et 2 15 4 17 HT_ ?_;refine Et 7 20 8 21 HT_ ?_;refine Et 10 23 14 27 HT_ ?_;refine Et 15 28 17 30 HT_ ?_;refine tk 3 16 HT_ HW_ hHeld ?_;refine tk 5 18 HT_ HW_ hHeld ?_;refine tk 9 22 HT_ HW_ hHeld ?_;refine tk 11 24 HT_ HW_ hHeld ?_;refine tk 16 29 HT_ HW_ hHeld ?_;refine tk 18 31 HT_ HW_ hHeld ?_;refine on 6 (some 19) HT_ λK hK=>?_;refine gs_ Tryz.func110 #[int i64 a0_0,int i64 ((zp t459 x9_1).f0)] ?_
    with_reducible refine(jp.calls k1 a0_0 ((zp t459 x9_1).f0) t464 _ A11.out).mono ?_
    rintro e w' ⟨rfl,⟨nd,rfl⟩⟩;refine⟨_,rfl,?_⟩;refine hK.out _ _ ⟨En BK455.out,Eo BK455.out,Ep BK455.out,En BK463.out,Eo BK463.out,Ep BK463.out⟩ λhHeld=>nz ?_;clear hK K;refine on 12 (some 25) HT_ λK hK=>?_;refine gs_ Tryz.func110 #[int i64 a0_1,int i64 ((zp t459 x9_1).f1)] ?_
    with_reducible refine(jp.calls k1 a0_1 ((zp t459 x9_1).f1) t465 _ A12.out).mono ?_
    rintro e w' ⟨rfl,⟨nd,rfl⟩⟩;refine⟨_,rfl,?_⟩;refine hK.out _ _ ⟨En BK455.out,Eo BK455.out,Ep BK455.out,En BK463.out,Eo BK463.out,Ep BK463.out⟩ λhHeld=>nz ?_;clear hK K;refine pz 13 26 HT_ ?_;refine on 19 (some 32) HT_ λK hK=>?_;refine gs_ Tryz.func110 #[int i64 a0_2,int i64 ((zp t459 x9_1).f2)] ?_
    with_reducible refine(jp.calls k1 a0_2 ((zp t459 x9_1).f2) t466 _ A13.out).mono ?_
    rintro e w' ⟨rfl,⟨nd,rfl⟩⟩;refine⟨_,rfl,?_⟩;refine hK.out _ _ ⟨En BK455.out,Eo BK455.out,Ep BK455.out,En BK463.out,Eo BK463.out,Ep BK463.out⟩ λhHeld=>nz ?_;clear hK K;refine pz 20 33 HT_ ?_;refine on 21 (some 34) HT_ λK hK=>?_;refine qbq (w1:=?_) (v:=?_) (by rfl) rfl ?_ ?_
    rotate_left 2
    ·go_simp
     constructor
     ·rfl
     ·rfl
    refine hK.out _ _ ⟨(qe (qx BK455.out _) 0).trans rfl,(qe (qx BK455.out _) 1).trans rfl,(qe (qx BK455.out _) 2).trans rfl,(qe (qx BK463.out _) 0).trans rfl,(qe (qx BK463.out _) 1).trans rfl,(qe (qx BK463.out _) 2).trans rfl⟩ λhHeld=>nz ?_;clear hK K;refine on 22 (some 35) HT_ λK hK=>?_;refine Kd.AA (Kd.int i64) (w0:=w) w.heap.size (by rfl) (.tmp 13) (.tmp 34) 37 3 (int i64 0) 8 rfl Tryz.underlying37 Ju rfl (by decide) (by omega) u3 x3_1 (wrap64 ((wrap64 (t464*t465))*t466)) [int i64 (wrap64 ((wrap64 (t464*t465))*t466))] (λ_=>True) (λ_=>False) rfl rfl ?aP (λ_ hk=>hk.elim) ?aF ?aO ?aB ?aS ?aL ?_
    (case aP=>exact rfl)
    (case aB=>exact(bx_ HB))
    (case aF=>exact(λ_ _=>trivial))
    (case aO=>exact(wR HO_3))
    (case aS=>exact(zw (bx_ HB)))
    (case aL=>have:=LMc14.out;omega)
    intro v468 w20 ho hb hg hat
    rw[<-Ny467.out]at ho;replace HO_7:=am (Kd.Bb (wR HO_7) (Kd.Bj (wR HO_3)) (by decide) hg);replace BK455:=am (Z2 (g:=gb455) (o:=.cells #[int i64 a0_0,int i64 a0_1,int i64 a0_2] 51 (0,0)) (pk_ BK455) hg (Kd.R_ne HO_3.out BK455.out (by decide)));replace BK463:=am (Z2 (g:=gb463) (o:=.cells #[int i64 ((zp t459 x9_1).f0),int i64 ((zp t459 x9_1).f1),int i64 ((zp t459 x9_1).f2)] 49 (0,0)) (pk_ BK463) hg (Kd.R_ne HO_3.out BK463.out (by decide)));replace HB:=am (hb);have HO469:=am (ho);clear HO_3;clear ho hb hg hat
    refine hK.out _ _ ⟨En BK455.out,Eo BK455.out,Ep BK455.out,En BK463.out,Eo BK463.out,Ep BK463.out⟩ λhHeld=>nz ?_;clear hK K;refine pz 23 3 HT_ ?_;refine Zh (Qe HT_.out (by kernel_rfl)) ?_
    try go_wp2
    go_roundg k1
    case measure=>have:=HK1.out;omega
    case rel=>exact⟨(y467),(wrap64 (x9_1+1)),fr,H',⟨by have:=HK1.out;omega⟩,⟨wR HO469⟩,⟨Kd.Af (Kd.Ae HO_7.out (λ_ hk=>trivial)) gs⟩,⟨by (with_reducible repeat (first|refine qw ?_ _|refine qy ?_|refine qx ?_ _));exact BK455.out⟩,⟨bx_ HB⟩⟩
   ·obtain rfl:=Option.some.inj H;go_wp2;go_ret
    exact⟨_,fq,wR HO_3,bx_ HB⟩
def Qf.l0 :Nat->Int->List (List Int)->List (S51)->Int->Int->Option ((List (List Int)))
 | 0,_,_,_,_,_=>none
 | k+1,x0,x5,x9,x10,x11=>if x11 < x10 then (if 0<=x11 then (if x11 < (x9.length:Int) then ((jk.f k ((qg x9 x11).f0.f0) ((qg x9 x11).f0.f1) ((qg x9 x11).f0.f2)).bind λt475=>(if x5.length < 5864062014805 then (Qf.l0 k x0 (x5++[t475]) x9 x10 (wrap64 (x11+1))) else (none))) else (none)) else (none)) else ((qk.f k x0 x5 10).bind λt481=>(some t481))
def Qf.f (k:Nat) (a0:Int) (l1:List (S51)):Option ((List (List Int))):=Qf.l0 k a0 (([]:List (List Int))) l1 (l1.length:Int) 0
theorem Qf.Ag :∀ k,(∀ y0 y1 y2 y3 y4,LeO (Qf.l0 k y0 y1 y2 y3 y4) (Qf.l0 (k+1) y0 y1 y2 y3 y4))
 | 0=>λ_ _ _ _ _ r h=>by simp[Qf.l0]at h
 | k+1=>by
  have ih0:=Qf.Ag k
  ·intro y0 y1 y2 y3 y4
   unfold Qf.l0
   repeat' with_reducible first|intro _|apply ih0|apply jk.mono|apply qk.mono|apply Eb|apply Ec|apply Ed|apply Ee
theorem Qf.mono (a0 a1 k):LeO (Qf.f k a0 a1) (Qf.f (k+1) a0 a1):=by
 have ih0:=Qf.Ag k;unfold Qf.f
 repeat' with_reducible first|intro _|apply ih0|apply jk.mono|apply qk.mono|apply Eb|apply Ec|apply Ed|apply Ee
theorem Qf.calls (k:Nat) (a0:Int) (A1:Option Addr) (c1:Nat) (l1:List (S51)) (r:List (List Int)) (w:World) (hr1:Kd.C k51 w A1 l1.length l1) (hc1:l1.length<=c1) (h:Qf.f k a0 l1=some r):
  Calls Tryz.prog 28 #[int i64 a0,.slice A1 l1.length c1] w λe w'=>∃ v0_:Value,e=.returned (v0_)/\Kd.S KI 37 w' w.heap.size (λ_=>True) v0_ r/\Below w.heap.size w w':=by
 have HR1:=am hr1;clear hr1 hc1;have HB:=Em w;have H:=h;unfold Qf.f at H;clear h;generalize hy470:(([]:List (List Int)))=y470 at H;have Ny470:=am hy470.symm;clear hy470;have H':=am H;clear H;go_enter Tryz.func28,Tryz.ntmps28
 go_wp2_with (first|((with_reducible refine zd (N:=8) rfl ?_);refine Kd.BC KI _ 37 ?hg (N:=8) ?hd (xs:=([]:List (List Int))) (inner:=[]) (ok:=λ_=>True) (okp:=λ_=>True) ?hr ?hp (λ_ hk=>hk) trivial (Below.refl _ _) (Nat.le_refl _) (by simp) ?_;(case hd=>rfl);(case hg=>rfl);(case hr=>first|(go_simp;done)|(go_simp;rfl));(case hp=>exact(Reps.none _ _));intro v471 w3 ho4 hb hg_ hnew_;clear hg_ hnew_;rw[<-Ny470.out]at ho4;have HO472:=am (Kd.AD ho4 (bz HB));replace HB:=bq HB hb;clear hb ho4))
 go_loopg [5,11] k (λkq v5 v11 w'=>∃ (x5_1:List (List Int)) (x11_1:Int),v11=int i64 x11_1/\qf (Qf.l0 kq a0 x5_1 l1 (l1.length:Int) x11_1=some r)/\qf (kq<=k)/\qf (Kd.S KI 37 w' w.heap.size (λ_=>True) v5 x5_1)/\qf (Below w.heap.size w w'))
 case atStart=>exact⟨(y470),(0),fr,H',⟨Nat.le_refl _⟩,⟨wS HO472⟩,⟨bw HB⟩⟩
 case round=>
  clear H';try clear c1;try clear c2;try clear p2
  obtain⟨x5_1,x11_1,rfl,HA,HK1,HO_5,HB⟩:=hrel
  cases gk with
  | zero=>exact absurd HA.out (by simp[Qf.l0])
  | succ k1=>
   have H:=HA.out;clear HA;simp only[Qf.l0]at H;replace H:=Eg H;rcases H with ⟨c5b0,H⟩|⟨c5b0,H⟩
   ·replace H:=Ef H;obtain⟨c6b0,H⟩:=H;replace H:=Ef H;obtain⟨c7b0,H⟩:=H;replace H:=bs H;obtain⟨t475,A8,H⟩:=H
    replace H:=ifn H;obtain⟨c9,H⟩:=H;have LMc9:=am c9;clear c9;generalize hy478:(x5_1++[t475]:List (List Int))=y478 at H;have Ny478:=am hy478.symm;clear hy478;have H':=am H;clear H;have p473:0<=(x11_1:Int):=od;have q473:x11_1 < (l1.length:Int):=od;obtain⟨ad473,e473,hx473_0,hx473_1,hx473_2⟩:=Zn HR1.out x11_1 p473 q473
    cases e473
    replace hx473_0:=wcl HB hx473_0;replace hx473_1:=wcl HB hx473_1;replace hx473_2:=wcl HB hx473_2;replace p473:=eq_true p473;replace q473:=eq_true q473
    go_wp2_with (first|((with_reducible refine zd (N:=7) rfl ?_);refine xe_ 7 51 #[int i64 0,int i64 0,int i64 0] ?_;intro gb474 hg w10 hbox hb;replace HO_5:=am (Kd.Ap (wS HO_5) hb);have BK474:=am (hbox);have GW474:=Ek HB hg;replace HB:=bq HB hb;clear hb hbox hg;have hcz11_0:=En BK474.out;have hcz11_1:=Eo BK474.out;have hcz11_2:=Ep BK474.out;have hfz11_0:=ql BK474.out 0;have hfz11_1:=ql BK474.out 1;have hfz11_2:=ql BK474.out 2)|((with_reducible refine za (f:=68) rfl ?_);refine gl 17 Tryz.func68 #[.agg #[int i64 ((qg l1 x11_1).f0.f0),int i64 ((qg l1 x11_1).f0.f1),int i64 ((qg l1 x11_1).f0.f2)]] ?_;(with_reducible refine(jk.calls k1 ((qg l1 x11_1).f0.f0) ((qg l1 x11_1).f0.f1) ((qg l1 x11_1).f0.f2) t475 _ A8.out).mono ?_);rintro e w12 ⟨v476,rfl,ho0,hb⟩;refine⟨_,rfl,?_⟩;replace HO_5:=am (Kd.Bz (by (with_reducible repeat (first|apply Kd.Ba|apply Kd.AQ|apply Kd.AU));exact(Kd.At (Kd.Bk (p:=⟨gb474,2,none⟩) (Kd.Bk (p:=⟨gb474,1,none⟩) (Kd.Bk (p:=⟨gb474,0,none⟩) (Kd.BT HO_5.out BK474.out (by decide)) (λ_ hk=>hk.2) (int i64 ((qg l1 x11_1).f0.f0))) (λ_ hk=>hk.2) (int i64 ((qg l1 x11_1).f0.f1))) (λ_ hk=>hk.2) (int i64 ((qg l1 x11_1).f0.f2))) (λ_ h_=>h_.1))) (Kd.Am ho0) hb);have HO477:=am (Kd.Ai ho0 (zw (bx_ HB)));replace HB:=am (ze (bx_ HB) hb);(try clear hb);(try clear ho0);obtain⟨Ao14,co14,eo14⟩:=Kd.Ah HO477.out;subst eo14)|((with_reducible refine jz (b:=.append) (xs:=#[.tmp 15,.tmp 18]) rfl ?_);at_builtin;refine Kd.Bg KI (w0:=w) w.heap.size rfl (.tmp 15) (.tmp 18) 24 37 (.slice none 0 0) 24 rfl Tryz.underlying24 Ja rfl (by decide) (by omega) u5 x5_1 t475 [.slice Ao14 t475.length co14] (λ_=>True) (λk_=>some k_=(.slice Ao14 t475.length co14:Value).ownBlock) rfl rfl ?aP (λk_ hk_=>((Kd.Ae (ok':=λk_=>((λ_=>True)) k_/\some k_≠(u5:Value).ownBlock) (Kd.Ak (HO477.out) (Kd.AB HO_5.out) (by decide)) (λk_ hk=>⟨trivial,hk.2⟩))).1 k_ hk_.symm) ?aF ?aO ?aB ?aS ?aL ?_;(case aP=>exact Kd.BM (Kd.Ae (Kd.AO rfl (Kd.Ae (ok':=λk_=>((λ_=>True)) k_/\some k_≠(u5:Value).ownBlock) (Kd.Ak (HO477.out) (Kd.AB HO_5.out) (by decide)) (λk_ hk=>⟨trivial,hk.2⟩))) (λ_ h_=>h_)));(case aB=>exact(bx_ HB));(case aF=>exact(λ_ _=>trivial));(case aO=>exact(oS_ HO_5 (λk_ hk=>⟨trivial,λe_=>hk.2 e_⟩)));(case aS=>exact(zw (bx_ HB)));(case aL=>have:=LMc9.out;omega);intro v479 w13 ho hb hg hat;rw[<-Ny478.out]at ho;replace HB:=am (hb);have HO480:=am (ho);clear HO_5 HO477;clear ho hb hg hat))
    go_roundg k1
    case measure=>have:=HK1.out;omega
    case rel=>exact⟨(y478),(wrap64 (x11_1+1)),fr,H',⟨by have:=HK1.out;omega⟩,⟨wS HO480⟩,⟨bx_ HB⟩⟩
   ·replace H:=bs H;obtain⟨t481,A15,H⟩:=H;obtain rfl:=Option.some.inj H
    obtain⟨Ao16,co16,eo16⟩:=Kd.AJ HO_5.out;subst eo16
    go_wp2_with (first|((with_reducible refine za (f:=66) rfl ?_);refine gl 23 Tryz.func66 #[int i64 a0,.slice Ao16 x5_1.length co16,int i64 10] ?_;(with_reducible refine(qk.calls k1 a0 _ _ x5_1 10 t481 _ ?_ ?_ A15.out).mono ?_);exact Kd.Ad (Kd.Al HO_5.out).2.2 gs;exact(Kd.Al HO_5.out).2.1;rintro e w17 ⟨v482,rfl,ho0,hb⟩;refine⟨_,rfl,?_⟩;have HO483:=am (Kd.AD (Kd.Bm ho0 (Kd.S_lt (wS HO_5))) (bz HB));replace HO_5:=eS HO_5 (Kd.Bf ho0) hb;replace HB:=bq HB hb;(try clear hb);(try clear ho0)))
    go_ret
    exact⟨_,fq,Kd.Ap (Kd.At HO483.out (λ_ hk=>trivial)) gs,bw HB⟩
def isE (e0 e1 e2:Int) (j:Nat):Int:=if j=0 then e0 else if j=1 then e1 else e2
def isL (e:Int) (i j:Nat):Int:=if i=j then wrap64 (e - 1) else e
def isT (k:Nat) (ai t x0 x1 x2 e0 e1 e2:Int):Option Int:=(jp.f k x0 e0).bind λq0=>(jp.f k x1 e1).bind λq1=>(jp.f k x2 e2).bind λq2=>some (wrap64 (wrap64 (wrap64 (wrap64 (ai*t)*q0)*q1)*q2))
def isI (k:Nat) (a:List Int) (x0 x1 x2:Int) (j:Nat) (L:List S49):Nat->Nat->Int->Option Int
 | 0,_,n=>some n
 | d+1,i,n=>if isE (zp L (i:Int)).f0 (zp L (i:Int)).f1 (zp L (i:Int)).f2 j=0 then isI k a x0 x1 x2 j L d (i+1) n else if i < a.length then (isT k (rd a (i:Int)) (isE (zp L (i:Int)).f0 (zp L (i:Int)).f1 (zp L (i:Int)).f2 j) x0 x1 x2 (isL (zp L (i:Int)).f0 0 j) (isL (zp L (i:Int)).f1 1 j) (isL (zp L (i:Int)).f2 2 j)).bind λt=>isI k a x0 x1 x2 j L d (i+1) (wrap64 (n+t)) else none
def isD (k:Nat) (p:Int) (a:List Int) (x0 x1 x2:Int):Nat->Nat->List Int->Option (List Int)
 | 0,_,acc=>some acc
 | d+1,j,acc=>(zg.f k).bind λL=>if L.length<=1000 then (isI k a x0 x1 x2 j L L.length 0 0).bind λs=>(qaf.f s p).bind λm=>isD k p a x0 x1 x2 d (j+1) (acc++[m]) else none
def Q6.f (k:Nat) (p:Int) (a:List Int) (x0 x1 x2:Int):Option (List Int):=isD k p a x0 x1 x2 3 0 []
theorem qtp (k:Nat) (ai t x0 x1 x2 e0 e1 e2:Int):LeO (isT k ai t x0 x1 x2 e0 e1 e2) (isT (k+1) ai t x0 x1 x2 e0 e1 e2):=
 LeO.bind (jp.mono _ _ _) λ_=>LeO.bind (jp.mono _ _ _) λ_=>LeO.bind (jp.mono _ _ _) λ_=>LeO.refl _
theorem qhe (k:Nat) (a:List Int) (x0 x1 x2:Int) (j:Nat) (L:List S49):∀ d i n,LeO (isI k a x0 x1 x2 j L d i n) (isI (k+1) a x0 x1 x2 j L d i n)
 | 0,_,_=>LeO.refl _
 | d+1,i,n=>by rw[isI,isI];exact LeO.ite (qhe k a x0 x1 x2 j L d _ _) (LeO.ite (LeO.bind (qtp _ _ _ _ _ _ _ _ _) λ_=>qhe k a x0 x1 x2 j L d _ _) (LeO.refl _))
theorem qm9 (k:Nat) (p:Int) (a:List Int) (x0 x1 x2:Int):∀ d j acc,LeO (isD k p a x0 x1 x2 d j acc) (isD (k+1) p a x0 x1 x2 d j acc)
 | 0,_,_=>LeO.refl _
 | d+1,j,acc=>by rw[isD,isD];exact LeO.bind (zg.mono _) λ_=>LeO.ite (LeO.bind (qhe _ _ _ _ _ _ _ _ _ _) λ_=>LeO.bind (LeO.refl _) λ_=>qm9 k p a x0 x1 x2 d _ _) (LeO.refl _)
theorem Q6.mono :∀ a0 a1 a2 a3 a4 k,LeO (Q6.f k a0 a1 a2 a3 a4) (Q6.f (k+1) a0 a1 a2 a3 a4):=λa0 a1 a2 a3 a4 k=>qm9 k a0 a1 a2 a3 a4 3 0 []
def Q6.T12 :Bool×List (List Nat×List Nat):=(true,[([],[]),([],[]),([],[]),([1,2],[1,2]),([3],[3]),([],[]),([4,5],[4,5]),([],[]),([7],[7]),([8],[8]),([],[]),([10],[10]),([9,11],[9,11]),([6,12],[6,12]),([],[]),([14],[14]),([15],[15]),([],[]),([17],[17]),([16,18,12],[16,18]),([13,19],[13,19]),([],[]),([21],[21]),([22],[22]),([],[]),([24],[24]),([23,25,19],[23,25]),([20,26],[20,26]),([0,27],[0,27]),([28,26,0,1,2,3,4,5,6,7,8,9,10,11,12,13,14,15,16,17,18,19,20,21,22,23,24,25,26,27,28],[0,28])])
def Q6.B12 :List Nat:=[0,0,0,6,14,0,62,0,128,384,0,1024,3968,8190,0,16384,49152,0,131072,515968,1048574,0,2097152,6291456,0,16777216,66051968,134217726,268435455,536870911]
theorem qmy {w:World} {g:Nat} {t:TypeId} {e0 e1 e2:Int} (h:w.heap[g]? =some (.cells #[int i64 e0,int i64 e1,int i64 e2] t (0,0))) {j:Nat} (hj:j < 3):w.cell? ⟨g,j,none⟩=some (int i64 (isE e0 e1 e2 j)):=by
 rcases (show j=0\/j=1\/j=2 by omega) with rfl|rfl|rfl<;>exact qe h _
theorem qqq {w:World} {g:Nat} {t:TypeId} {e0 e1 e2:Int} (h:w.heap[g]? =some (.cells #[int i64 e0,int i64 e1,int i64 e2] t (0,0))) {j:Nat} (hj:j < 3):(w.setCell ⟨g,j,none⟩ (int i64 (wrap64 (isE e0 e1 e2 j - 1)))).heap[g]? =some (.cells #[int i64 (isL e0 0 j),int i64 (isL e1 1 j),int i64 (isL e2 2 j)] t (0,0)):=by
 rcases (show j=0\/j=1\/j=2 by omega) with rfl|rfl|rfl<;>exact zc h _ _
theorem qk5 {i d n:Nat} (h:i+(d+1)=n):n - (((i+1:Nat):Int)).toNat < n - ((i:Int)).toNat:=by omega
theorem Q6.calls (k:Nat) (a0:Int) (A1:Option Addr) (c1:Nat) (l1:List Int) (x0 x1 x2:Int) (r:List Int) (w:World) (hr1:Kd.C (Kd.int i64) w A1 l1.length l1) (hc1:l1.length<=c1) (h:Q6.f k a0 l1 x0 x1 x2=some r):
  Calls Tryz.prog 69 #[int i64 a0,.slice A1 l1.length c1,.agg #[int i64 x0,int i64 x1,int i64 x2]] w λe w'=>∃ v0_:Value,e=.returned (v0_)/\Kd.R (Kd.int i64) 3 w' w.heap.size (λ_=>True) v0_ r/\Below w.heap.size w w':=by
 have HR1:=am hr1;have HB:=Em w;unfold Q6.f at h;have H:=am h;clear hr1 hc1 h;go_enter Tryz.func69,Tryz.ntmps69
 go_wp2_with (first
  | ((with_reducible refine zd (N:=5) rfl ?_);refine xe_ 5 51 #[int i64 x0,int i64 x1,int i64 x2] ?_;intro gX hg w3 hbox hb;have HX:=am hbox;have GX:=am (show w.heap.size<=gX by rw[hg];exact bz HB);replace HB:=bq HB hb;clear hb hbox hg)
  | ((with_reducible refine zd (N:=13) rfl ?_);refine li 3 ([]:List Int) ?_;intro v7' w4 ho5 hb;have HR7:=am (Kd.Ai ho5 (bz HB));replace HX:=am (qt (pk_ HX) hb);replace HB:=bq HB hb;clear hb ho5))
 go_loopw [7,14] (λv7 v14 w'=>∃ (d j:Nat) (acc:List Int),v14=int i64 (j:Int)/\qf (j+d=3)/\qf (acc.length=j)/\qf (isD k a0 l1 x0 x1 x2 d j acc=some r)/\qf (Kd.R (Kd.int i64) 3 w' w.heap.size (λ_=>True) v7 acc)/\qf (w'.heap[gX]? =some (.cells #[int i64 x0,int i64 x1,int i64 x2] 51 (0,0)))/\qf (Below w.heap.size w w')) (λ_ v14 _=>3 - (intOf v14).toNat)
 case atStart=>exact⟨3,0,[],rfl,⟨by omega⟩,⟨rfl⟩,H,⟨wR HR7⟩,⟨pk_ HX⟩,⟨bw HB⟩⟩
 case round=>
  clear H HR7 HX HB;obtain⟨d,j,acc,rfl,HD,HAL,H,HR7,HX,HB⟩:=hrel
  cases d with
  | zero=>
   have hlt:decide ((j:Int) < 3)=false:=decide_eq_false (by have:=HD.out;omega);have hr:=H.out;rw[isD]at hr;obtain rfl:=Option.some.inj hr;clear hr;go_wp2;go_ret
   exact⟨_,fq,wR HR7,bw HB⟩
  | succ d=>
   have hlt:decide ((j:Int) < 3)=true:=decide_eq_true (by have:=HD.out;omega);have h2:=H.out;rw[isD]at h2;obtain⟨L,hL,h2⟩:=Option.bind_eq_some_iff.1 h2
   by_cases hl:L.length<=1000
   rotate_left
   ·rw[if_neg hl]at h2;cases h2
   rw[if_pos hl]at h2;obtain⟨s,hs,h2⟩:=Option.bind_eq_some_iff.1 h2;obtain⟨m,hm,hn⟩:=Option.bind_eq_some_iff.1 h2;have HL:=am hL;have HLL:=am hl;have HS:=am hs;have HM:=am hm;have HN:=am hn;clear H h2 hL hl hs hm hn;go_wp2_with fail;refine(zg.calls k L _ HL.out).mono ?_;rintro e w1 ⟨u,rfl,hv,hb⟩;obtain⟨AL,cL,e1⟩:=Kd.Ah hv;subst e1;have HR8:=am (Kd.Af (wR HR7) hb);have HX8:=am (qt (pk_ HX) hb);have HB1:=bq HB hb;have HC:=am (Kd.Ac hv).2.2;have HBR:=am (Below.refl w1.heap.size w1);clear hv hb HB HR7 HX;go_wp2
   go_loopw [9,19] (λv9 v19 w'=>∃ (d2 i:Nat) (n:Int),v9=int i64 n/\v19=int i64 (i:Int)/\qf (i+d2=L.length)/\qf (isI k l1 x0 x1 x2 j L d2 i n=some s)/\qf (Below w1.heap.size w1 w')) (λ_ v19 _=>L.length - (intOf v19).toNat)
   case atStart=>exact⟨L.length,0,0,rfl,rfl,⟨by omega⟩,HS,⟨bw HBR⟩⟩
   case round=>
    clear HS HBR;obtain⟨d2,i,n,rfl,rfl,HD2,HI,HBR⟩:=hrel
    cases d2 with
    | zero=>
     have hlt2:decide ((i:Int) < (L.length:Int))=false:=decide_eq_false (by have:=HD2.out;omega);have nlt:(i < L.length)=False:=eq_false (by have:=HD2.out;omega);have hr:=HI.out;rw[isI]at hr;obtain rfl:=Option.some.inj hr;clear hr;have HR9:=am (Kd.Af HR8.out HBR.out);have HX9:=am (qt HX8.out HBR.out);have HB9:=bq HB1 HBR.out;have hw1:wrap64 ((j:Int)+1)=((j+1:Nat):Int):=by have:=HD.out;unfold wrap64;omega
     have HW1:=am hw1;clear hw1 HR8 HX8 HB1 HBR
     go_wp2_with (first
      | ((with_reducible refine za (f:=108) rfl ?_);refine gl 67 Tryz.func108 #[int i64 n,int i64 a0] ?_;refine(qaf.calls n a0 m _ HM.out).mono ?_;rintro e w5 ⟨rfl,⟨nd,rfl⟩⟩;refine⟨_,rfl,?_⟩)
      | ((with_reducible refine jz (b:=.append) (xs:=#[.tmp 64,.tmp 68]) rfl ?_);at_builtin;refine Kd.Au (Kd.int i64) (w0:=w) w.heap.size rfl (.tmp 64) (.tmp 68) 37 3 (int i64 0) 8 rfl Tryz.underlying37 Ju rfl (by decide) (by omega) u7 acc m [int i64 m] (λ_=>True) (λ_=>False) rfl rfl ?aP (λ_ hk=>hk.elim) ?aF ?aO ?aB ?aS ?aL ?_;(case aP=>exact rfl);(case aB=>exact(bw HB9));(case aF=>exact(λ_ _=>trivial));(case aO=>exact(wR HR9));(case aS=>exact(bz HB9));(case aL=>have:=HAL.out;have:=HD.out;omega);intro v8' w6 ho hb hg hat;have HX10:=am (Z2 (pk_ HX9) hg (Kd.R_ne HR9.out HX9.out (by decide)));have HR10:=am ho;have HB10:=am hb;clear ho hb hg hat HR9 HX9 HB9))
     go_roundw
     case measure=>rw[HW1.out];exact qk5 HD.out
     case rel=>exact⟨d,j+1,acc++[m],by rw[HW1.out],⟨by have:=HD.out;omega⟩,⟨by rw[List.length_append,HAL.out];rfl⟩,HN,⟨wR HR10⟩,⟨pk_ HX10⟩,⟨bw HB10⟩⟩
    | succ d2=>
     have hlt2:decide ((i:Int) < (L.length:Int))=true:=decide_eq_true (by have:=HD2.out;omega);obtain⟨ad,e1,y0,y1,y2⟩:=qlo HC.out (i:Int) (by omega) (by have:=HD2.out;omega);subst e1;rw[Int.toNat_natCast]at y0 y1 y2;have h2:=HI.out;rw[isI]at h2;generalize hY:zp L (i:Int)=Y at y0 y1 y2 h2;have z0:=wcl HBR y0;have z1:=wcl HBR y1;have z2:=wcl HBR y2;clear y0 y1 y2 hY HI;have p1:(0<=(i:Int))=True:=eq_true (by omega);have q1:((i:Int) < L.length)=True:=eq_true (by have:=HD2.out;omega);have q2:(i < L.length)=True:=eq_true (by have:=HD2.out;omega);have H2:=am h2;clear h2
     go_upto_region 9 with fail
     clear z0 z1 z2 p1 q1 q2;have HE:=am (heap_alloc_last wr (.cells #[int i64 Y.f0,int i64 Y.f1,int i64 Y.f2] 49));have HB2:=am (show Below w1.heap.size w1 (wr.alloc (.cells #[int i64 Y.f0,int i64 Y.f1,int i64 Y.f2] 49)) from bw HBR);have HG:=am (show w1.heap.size<=wr.heap.size from HBR.out.size);clear HBR;generalize wr.alloc (.cells #[int i64 Y.f0,int i64 Y.f1,int i64 Y.f2] 49)=w2 at HE HB2 ⊢;generalize wr.heap.size=gE at HE HG ⊢;have hj3:j < 3:=by have:=HD.out;omega
     have p2:(0<=(j:Int))=True:=eq_true (by omega);have q2:((j:Int) < 3)=True:=eq_true (by omega);have yj:=qmy HE.out hj3;have HJ3:=am hj3;clear hj3;have hw1:wrap64 ((i:Int)+1)=((i+1:Nat):Int):=by have:=HD2.out;have:=HLL.out;unfold wrap64;omega
     have HW1:=am hw1;clear hw1;have h2:=H2.out;clear H2
     by_cases hz:isE Y.f0 Y.f1 Y.f2 j=0
     ·rw[if_pos hz]at h2
      have HJ2:=am h2;have bz:(isE Y.f0 Y.f1 Y.f2 j == 0)=true:=beq_iff_eq.mpr hz;clear h2 hz;go_wp2_with fail
      go_roundw
      case measure=>rw[HW1.out];exact qk5 HD2.out
      case rel=>exact⟨d2,i+1,n,rfl,by rw[HW1.out],⟨by have:=HD2.out;omega⟩,HJ2,⟨bw HB2⟩⟩
     ·rw[if_neg hz]at h2
      by_cases hi:i < l1.length
      rotate_left
      ·rw[if_neg hi]at h2;cases h2
      rw[if_pos hi]at h2;obtain⟨tt,ht,hn⟩:=Option.bind_eq_some_iff.1 h2;unfold isT at ht;obtain⟨q0,h0,ht⟩:=Option.bind_eq_some_iff.1 ht;obtain⟨q1,h1,ht⟩:=Option.bind_eq_some_iff.1 ht;obtain⟨q2',h2',ht⟩:=Option.bind_eq_some_iff.1 ht;obtain rfl:=Option.some.inj ht;have bz:(isE Y.f0 Y.f1 Y.f2 j == 0)=false:=beq_eq_false_iff_ne.mpr hz;have P0:=am h0;have P1:=am h1;have P2:=am h2';have HJN:=am hn;have HI:=am hi;clear h2 hz h0 h1 h2' hn ht
      go_upto_region 11 with fail
      have yj:=qmy HE.out HJ3.out;have fz:=ql HE.out j
      go_upto_region 12 with fail
      have HE3:=am (qqq HE.out HJ3.out);have HB3:=am (Za HB2.out HG.out (j:=j) (v:=int i64 (wrap64 (isE Y.f0 Y.f1 Y.f2 j - 1))));clear yj fz HE HB2 p2 q2 bz;generalize w2.setCell ⟨gE,j,none⟩ (int i64 (wrap64 (isE Y.f0 Y.f1 Y.f2 j - 1)))=w3' at HE3 HB3 ⊢;obtain⟨ad2,e2,zz⟩:=Kd.Aj HR1.out (i:Int) (by omega) (by omega);subst e2;rw[Int.toNat_natCast]at zz;have zz:=wcl HB1 zz;have zz:=wcl HB3 zz;have p1:(0<=(i:Int))=True:=eq_true (by omega);have qi:(i < l1.length)=True:=eq_true HI.out;have qi2:((i:Int) < l1.length)=True:=eq_true (by have:=HI.out;omega);have xg:=qt HX8.out HB3.out;have x0':w3'.drew.cell? ⟨gX,0,none⟩=some (int i64 x0):=(qe (qy xg) 0).trans rfl;have x1':w3'.drew.cell? ⟨gX,1,none⟩=some (int i64 x1):=(qe (qy xg) 1).trans rfl;have x2':w3'.drew.cell? ⟨gX,2,none⟩=some (int i64 x2):=(qe (qy xg) 2).trans rfl;have e0':w3'.drew.cell? ⟨gE,0,none⟩=some (int i64 (isL Y.f0 0 j)):=(qe (qy HE3.out) 0).trans rfl;have e1':w3'.drew.cell? ⟨gE,1,none⟩=some (int i64 (isL Y.f1 1 j)):=(qe (qy HE3.out) 1).trans rfl;have e2':w3'.drew.cell? ⟨gE,2,none⟩=some (int i64 (isL Y.f2 2 j)):=(qe (qy HE3.out) 2).trans rfl;have hS:(λw':World=>w'.cell? (ad2.add i)=some (int i64 (rd l1 (i:Int)))/\w'.cell? ⟨gX,0,none⟩=some (int i64 x0)/\w'.cell? ⟨gX,1,none⟩=some (int i64 x1)/\w'.cell? ⟨gX,2,none⟩=some (int i64 x2)/\w'.cell? ⟨gE,0,none⟩=some (int i64 (isL Y.f0 0 j))/\w'.cell? ⟨gE,1,none⟩=some (int i64 (isL Y.f1 1 j))/\w'.cell? ⟨gE,2,none⟩=some (int i64 (isL Y.f2 2 j))) w3'.drew:=⟨zz,x0',x1',x2',e0',e1',e2'⟩
      refine st (T:=Q6.T12) (B:=Q6.B12) 30 (λw':World=>w'.cell? (ad2.add i)=some (int i64 (rd l1 (i:Int)))/\w'.cell? ⟨gX,0,none⟩=some (int i64 x0)/\w'.cell? ⟨gX,1,none⟩=some (int i64 x1)/\w'.cell? ⟨gX,2,none⟩=some (int i64 x2)/\w'.cell? ⟨gE,0,none⟩=some (int i64 (isL Y.f0 0 j))/\w'.cell? ⟨gE,1,none⟩=some (int i64 (isL Y.f1 1 j))/\w'.cell? ⟨gE,2,none⟩=some (int i64 (isL Y.f2 2 j))) [] (by kernel_rfl) (by kernel_rfl) hS λhHeld HT_ HW_=>?_;clear hS zz xg x0' x1' x2' e0' e1' e2';refine Et 0 34 1 35 HT_ ?_;refine Et 2 36 3 37 HT_ ?_;refine Et 5 39 7 41 HT_ ?_;refine Et 8 42 10 44 HT_ ?_;refine Et 14 48 15 49 HT_ ?_;refine Et 17 51 21 55 HT_ ?_;refine Et 22 56 24 58 HT_ ?_;refine tk 4 38 HT_ HW_ hHeld ?_;refine tk 9 43 HT_ HW_ hHeld ?_;refine tk 11 45 HT_ HW_ hHeld ?_;refine tk 16 50 HT_ HW_ hHeld ?_;refine tk 18 52 HT_ HW_ hHeld ?_;refine tk 23 57 HT_ HW_ hHeld ?_;refine tk 25 59 HT_ HW_ hHeld ?_;refine pz 6 40 HT_ ?_;refine on 12 (some 46) HT_ λK hK=>?_;refine gs_ Tryz.func110 #[int i64 x0,int i64 (isL Y.f0 0 j)] ?_
      with_reducible refine(jp.calls k x0 (isL Y.f0 0 j) q0 _ P0.out).mono ?_
      rintro e w' ⟨rfl,⟨nd,rfl⟩⟩;refine⟨_,rfl,?_⟩;refine hK.out _ _ hHeld λhHeld=>nz ?_;clear hK K;refine pz 13 47 HT_ ?_;refine on 19 (some 53) HT_ λK hK=>?_;refine gs_ Tryz.func110 #[int i64 x1,int i64 (isL Y.f1 1 j)] ?_
      with_reducible refine(jp.calls k x1 (isL Y.f1 1 j) q1 _ P1.out).mono ?_
      rintro e w' ⟨rfl,⟨nd,rfl⟩⟩;refine⟨_,rfl,?_⟩;refine hK.out _ _ hHeld λhHeld=>nz ?_;clear hK K;refine pz 20 54 HT_ ?_;refine on 26 (some 60) HT_ λK hK=>?_;refine gs_ Tryz.func110 #[int i64 x2,int i64 (isL Y.f2 2 j)] ?_
      with_reducible refine(jp.calls k x2 (isL Y.f2 2 j) q2' _ P2.out).mono ?_
      rintro e w' ⟨rfl,⟨nd,rfl⟩⟩;refine⟨_,rfl,?_⟩;refine hK.out _ _ hHeld λhHeld=>nz ?_;clear hK K;refine Et 27 61 28 62 HT_ ?_;refine pz 29 9 HT_ ?_;refine Zh (Qe HT_.out (by kernel_rfl)) ?_;clear HT_ HW_ hHeld;go_wp2
      go_roundw
      case measure=>rw[HW1.out];exact qk5 HD2.out
      case rel=>exact⟨d2,i+1,_,rfl,by rw[HW1.out],⟨by have:=HD2.out;omega⟩,HJN,⟨bw HB3⟩⟩
set_option maxRecDepth 1000000
attribute [local go_sem] Tryz.underlying27
def Qa.l0 :Nat->List Int->List (List Int)->Int->Int->Option (List Int)
 | 0,_,_,_,_=>none
 | k+1,x5,x11,x12,x13=>if x13 < x12 then (if 0<=x13 then (if x13 < (x11.length:Int) then (if x5.length+(zt x11 x13).length < 17592186044416 then (Qa.l0 k (x5++(zt x11 x13)) x11 x12 (wrap64 (x13+1))) else (none)) else (none)) else (none)) else (some x5)
def Qa.f (k:Nat) (a0:Int) (l1:List (List Int)):Option (List Int):=(zl.f k a0 l1).bind λt487=>(Qa.l0 k (([]:List Int)) t487 (t487.length:Int) 0)
theorem Qa.Ag :∀ k,(∀ y0 y1 y2 y3,LeO (Qa.l0 k y0 y1 y2 y3) (Qa.l0 (k+1) y0 y1 y2 y3))
 | 0=>λ_ _ _ _ r h=>by simp[Qa.l0]at h
 | k+1=>by
  have ih0:=Qa.Ag k
  ·intro y0 y1 y2 y3
   unfold Qa.l0
   repeat' with_reducible first|intro _|apply ih0|apply zl.mono|apply Eb|apply Ec|apply Ed|apply Ee
theorem Qa.mono (a0 a1 k):LeO (Qa.f k a0 a1) (Qa.f (k+1) a0 a1):=by
 have ih0:=Qa.Ag k;unfold Qa.f
 repeat' with_reducible first|intro _|apply ih0|apply zl.mono|apply Eb|apply Ec|apply Ed|apply Ee
theorem Qa.calls (k:Nat) (a0:Int) (A1:Option Addr) (c1:Nat) (l1:List (List Int)) (r:List Int) (w:World) (hr1:Kd.C KI w A1 l1.length l1) (hc1:l1.length<=c1) (h:Qa.f k a0 l1=some r):
  Calls Tryz.prog 70 #[int i64 a0,.slice A1 l1.length c1] w λe w'=>∃ v0_:Value,e=.returned (v0_)/\Kd.R (Kd.int i64) 3 w' w.heap.size (λ_=>True) v0_ r/\Below w.heap.size w w':=by
 have HR1:=am hr1;have HC1:=am hc1;clear hr1 hc1;have HB:=Em w;have H:=h;unfold Qa.f at H;clear h;generalize hy484:(([]:List Int))=y484 at H;have Ny484:=am hy484.symm;clear hy484;replace H:=bs H;obtain⟨t487,A3,H⟩:=H;have H':=am H;clear H;go_enter Tryz.func70,Tryz.ntmps70
 go_wp2_with (first|((with_reducible refine zd (N:=8) rfl ?_);refine li 3 ([]:List Int) ?_;intro v485 w4 ho5 hb;rw[<-Ny484.out]at ho5;have HO486:=am (Kd.Ai ho5 (bz HB));replace HB:=bq HB hb;clear hb ho5)|((with_reducible refine za (f:=84) rfl ?_);refine gl 11 Tryz.func84 #[int i64 a0,.slice A1 l1.length c1] ?_;(with_reducible refine(zl.calls k a0 _ _ l1 t487 _ ?_ ?_ A3.out).mono ?_);exact Kd.Ad HR1.out (bw HB);exact HC1.out;rintro e w6 ⟨v488,rfl,ho0,hb⟩;refine⟨_,rfl,?_⟩;have HO489:=am (Kd.AD (Kd.Bm ho0 (Kd.R_lt (wR HO486))) (bz HB));replace HO486:=am (Kd.Af (wR HO486) hb);replace HB:=bq HB hb;(try clear hb);(try clear ho0);obtain⟨Ao7,co7,eo7⟩:=Kd.AJ HO489.out;subst eo7))
 go_loopg [5,13] k (λkq v5 v13 w'=>∃ (x5_1:List Int) (x13_1:Int),v13=int i64 x13_1/\qf (Qa.l0 kq x5_1 t487 (t487.length:Int) x13_1=some r)/\qf (kq<=k)/\qf (Kd.R (Kd.int i64) 3 w' w.heap.size (λ_=>True) v5 x5_1)/\qf (Kd.S KI 37 w' w.heap.size (λk_=>some k_≠(v5:Value).ownBlock) (.slice Ao7 t487.length co7) t487)/\qf (Below w.heap.size w w'))
 case atStart=>exact⟨(y484),(0),fr,H',⟨Nat.le_refl _⟩,⟨wR HO486⟩,⟨Kd.Ap (Kd.At HO489.out (λ_ hk=>hk.2)) gs⟩,⟨bw HB⟩⟩
 case round=>
  clear H';try clear c1;try clear p2;try clear c7
  obtain⟨x5_1,x13_1,rfl,HA,HK1,HO_5,HO_11,HB⟩:=hrel
  cases gk with
  | zero=>exact absurd HA.out (by simp[Qa.l0])
  | succ k1=>
   have H:=HA.out;clear HA;simp only[Qa.l0]at H;replace H:=Eg H;rcases H with ⟨c8b0,H⟩|⟨c8b0,H⟩
   ·replace H:=Ef H;obtain⟨c9b0,H⟩:=H;replace H:=Ef H;obtain⟨c10b0,H⟩:=H;replace H:=ifn H;obtain⟨c11,H⟩:=H
    have LMc11:=am c11;clear c11;generalize hy491:(x5_1++(zt t487 x13_1):List Int)=y491 at H;have Ny491:=am hy491.symm;clear hy491;have H':=am H;clear H;have p490:0<=(x13_1:Int):=od;have q490:x13_1 < (t487.length:Int):=od;obtain⟨ad490,A490_0,c490_0,e490,hx490_0,hl490_0,hi490_0⟩:=qat (Kd.Al HO_11.out).2.2 x13_1 p490 q490
    cases e490
    obtain⟨ce490,hce490,hMe490,hcc490⟩:=Kd.Ci HO_11.out [] x13_1 p490 (by first|exact q490|exact od|(have e_:=(Kd.Al HO_11.out).1;omega));obtain⟨ve490_0,rfl,ge490_0⟩:=hMe490;have hv490_0:=hcc490 0 _ rfl;rw[Nat.add_zero,show (KI).sz=1 from rfl,Nat.mul_one]at hv490_0;replace hv490_0:=Option.some.inj (hv490_0.symm.trans hx490_0);rw[hv490_0]at ge490_0;clear hv490_0 ge490_0;clear hcc490 hce490;have HR490_0:=am hi490_0;clear hi490_0 hl490_0;replace p490:=eq_true p490;replace q490:=eq_true q490
    go_wp2_with (first|((with_reducible refine jz (b:=.append) (xs:=#[.tmp 17,.tmp 18]) rfl ?_);at_builtin;refine Kd.Bo (Kd.int i64) (w0:=w) w.heap.size rfl (.tmp 17) (.tmp 18) 37 3 (int i64 0) 8 rfl Tryz.underlying37 Ju rfl (by decide) (by omega) u5 x5_1 (zt t487 x13_1) _ _ _ (λ_=>True) (λ_=>False) rfl rfl ?aO ?aR (λ_ _ h=>h) (λ_ h=>h.elim) ?aF ?aB ?aS ?aL ?_;(case aR=>exact wC HR490_0);(case aB=>exact(bw HB));(case aF=>exact(λ_ _=>trivial));(case aO=>exact(wR HO_5));(case aS=>exact(bz HB));(case aL=>have:=LMc11.out;omega);intro v492 w12 ho hb hg hat;rw[<-Ny491.out]at ho;replace HO_11:=am (Kd.Br (ok:=(λ_=>True)) (oS_ HO_11 (λ_ hk=>⟨trivial,hk⟩)) hg hat);replace HB:=am (hb);have HO493:=am (ho);clear HO_5;clear ho hb hg hat))
    go_roundg k1
    case measure=>have:=HK1.out;omega
    case rel=>exact⟨(y491),(wrap64 (x13_1+1)),fr,H',⟨by have:=HK1.out;omega⟩,⟨wR HO493⟩,⟨Kd.Ap (Kd.At HO_11.out (λ_ hk=>hk.2)) gs⟩,⟨bw HB⟩⟩
   ·obtain rfl:=Option.some.inj H;go_wp2;go_ret
    exact⟨_,fq,wR HO_5,bw HB⟩
def jj.l0 :Nat->Int->Int->Option (Int×Int)
 | 0,_,_=>none
 | k+1,x0,x4=>if x0>=(wrap64 (5 - x4)) then (jj.l0 k (wrap64 (x0 - (wrap64 (5 - x4)))) (wrap64 (x4+1))) else (some (x4,wrap64 ((wrap64 (x4+1))+x0)))
def jj.f (k:Nat) (a0:Int):Option (Int×Int):=jj.l0 k a0 0
theorem jj.Ag :∀ k,(∀ y0 y1,LeO (jj.l0 k y0 y1) (jj.l0 (k+1) y0 y1))
 | 0=>λ_ _ r h=>by simp[jj.l0]at h
 | k+1=>by
  have ih0:=jj.Ag k
  ·intro y0 y1
   unfold jj.l0
   repeat' with_reducible first|intro _|apply ih0|apply Eb|apply Ec|apply Ed|apply Ee
theorem jj.mono (a0 k):LeO (jj.f k a0) (jj.f (k+1) a0):=by
 have ih0:=jj.Ag k;unfold jj.f
 repeat' with_reducible first|intro _|apply ih0|apply Eb|apply Ec|apply Ed|apply Ee
theorem jj.calls (k:Nat) (a0:Int) (r1:Int) (r2:Int) (w:World) (h:jj.f k a0=some (r1,r2)):
  Calls Tryz.prog 72 #[int i64 a0] w λe w'=>e=.returned (.tuple #[int i64 r1,int i64 r2])/\Drawn0 w w':=by
 have H:=h;unfold jj.f at H;clear h;have H':=am H;clear H;go_enter Tryz.func72,Tryz.ntmps72
 go_wp2
 go_loopg [0,4] k (λkq v0 v4 w'=>∃ (x0_1:Int) (x4_1:Int),v0=int i64 x0_1/\v4=int i64 x4_1/\qf (jj.l0 kq x0_1 x4_1=some (r1,r2))/\qf (kq<=k)/\Drawn0 w w')
 case atStart=>exact⟨(a0),(0),fr,fr,H',⟨Nat.le_refl _⟩,df⟩
 case round=>
  clear H';obtain⟨x0_1,x4_1,rfl,rfl,HA,HK1,⟨m1,rfl⟩⟩:=hrel
  cases gk with
  | zero=>exact absurd HA.out (by simp[jj.l0])
  | succ k1=>
   have H:=HA.out;clear HA;simp only[jj.l0]at H
   by_cases c2:x0_1>=(wrap64 (5 - x4_1))
   ·rw[if_pos c2]at H
    have c2b0:=decide_eq_true c2;clear c2;have H':=am H;clear H;go_wp2
    go_roundg k1
    case measure=>have:=HK1.out;omega
    case rel=>exact⟨(wrap64 (x0_1 - (wrap64 (5 - x4_1)))),(wrap64 (x4_1+1)),fr,fr,H',⟨by have:=HK1.out;omega⟩,df⟩
   ·rw[if_neg c2]at H
    have c2b0:=decide_eq_false c2;clear c2;simp only[Option.some.injEq,Prod.mk.injEq]at H;obtain⟨rfl,rfl⟩:=H;go_wp2
    go_ret2
    exact⟨fr,df⟩
theorem qld (w:World) (ty:TypeId) (g o c:Nat) (hc:∀ j,j < 3->(w.cell? ⟨g,o+j,none⟩).isSome=true) (hf:∀ j,j < 3->w.frozen? ⟨g,o+j,none⟩=false):
  (Builtin.clear_ #[27] ty #[.slice (some ⟨g,o,none⟩) 1 c]).run Tryz.prog w=.ok (.tuple #[]) (w.setCells g o [int i64 0,int i64 0,int i64 0]):=by
 have hv:∀ w,(zeroValue 51).run Tryz.prog w=.ok (.agg #[int i64 0,int i64 0,int i64 0]) w:=Tryz.zeroValue51;have hst:=run_storeCells_cells (P:=Tryz.prog) g o [int i64 0,int i64 0,int i64 0] 0 w (by simpa using hc) (by simpa using hf) (by intro v hv';simp at hv';rw[hv'];rfl);simp only[Nat.add_zero]at hst;have hz:(Builtin.zeroCells (Value.agg #[int i64 0,int i64 0,int i64 0]).cells 1).toList=[int i64 0,int i64 0,int i64 0]:=by
  rw[show (Value.agg #[int i64 0,int i64 0,int i64 0]).cells=#[int i64 0,int i64 0,int i64 0] from rfl]
  simp[Builtin.zeroCells,Array.toList_range,List.range,List.range.loop]
 simp[Builtin.clear_,run_underlying Tryz.underlying27,hv,hz,hst]
theorem delPt.calls (w:World) (g n cap i:Nat) (cs:List Value) (hl:cs.length=n*3) (hc:∀ j u,cs[j]? =some u->w.cell? ⟨g,j,none⟩=some u) (h1:∀ u∈cs,u.oneCell'=true) (hf:∀ j,j < n*3->w.frozen? ⟨g,j,none⟩=false) (hn:n<=cap) (hm:cap<=9223372036854775807) (hi:i < n):
  Calls Tryz.prog 76 #[.slice (some ⟨g,0,none⟩) n cap,int i64 i,int i64 ((i:Int)+1)] w λe w'=>e=.returned (.slice (some ⟨g,0,none⟩) (n - 1) cap)/\w'=(w.drew.setCells g (i*3) (cs.drop ((i+1)*3))).setCells g ((n - 1)*3) [int i64 0,int i64 0,int i64 0]:=by
 have mixed:Tryz.prog.follows Departure.mixedOrders=true:=by kernel_rfl
 obtain⟨i0,hi0,hz3⟩:∃ i0,Tryz.prog.info? 51=some i0/\i0.size=3:=by
  have:=qb2
  cases h:Tryz.prog.info? 51 with
  | none=>rw[h]at this;simp at this
  | some i=>rw[h]at this;refine⟨i,rfl,?_⟩;simp at this;exact this.2.1
 obtain⟨news,hnews⟩:∃ news,news=cs.drop ((i+1)*3):=⟨_,rfl⟩
 have hlen:news.length=(n - (i+1))*3:=by rw[hnews,List.length_drop,hl];omega
 have hget:∀ t u,news[t]? =some u->w.cell? ⟨g,(i+1)*3+t,none⟩=some u:=λt u hu=>by
  rw[hnews,List.getElem?_drop]at hu;exact hc _ _ hu
 have hall:∀ j,j < n*3->(w.cell? ⟨g,j,none⟩).isSome=true:=λj hj=>by
  rw[hc j _ (List.getElem?_eq_getElem (by omega))];rfl
 obtain⟨A,hA,hsrc⟩:∃ A:Addr,(if cap=i+1 then some (⟨g,0,none⟩:Addr) else some ⟨g,(i+1)*3,none⟩)=some A/\Hid (∀ t u,news[t]? =some u->w.drew.cell? (A.add t)=some u):=by
  by_cases h:cap=i+1
  ·refine⟨⟨g,0,none⟩,by simp[h],λt u hu=>?_⟩
   have h0:news.length=0:=by rw[hlen];omega
   rw[List.length_eq_zero_iff.1 h0]at hu
   simp at hu
  ·refine⟨⟨g,(i+1)*3,none⟩,by simp[h],λt u hu=>?_⟩
   rw[Addr.add_lit];exact hget t u hu
 have s1:Hid (news.length=(n - (i+1))*3):=hlen;have s2:Hid (∀ u∈news,u.oneCell'=true):=λu hu=>h1 u (by rw[hnews]at hu;exact List.mem_of_mem_drop hu);have s3:Hid (∀ t,t < news.length->(w.drew.cell? ⟨g,0+i*3+t,none⟩).isSome=true/\w.drew.frozen? ⟨g,0+i*3+t,none⟩=false):=λt ht=>by
  rw[hlen]at ht;exact⟨hall _ (by omega),hf _ (by omega)⟩
 obtain⟨W1,hW1⟩:∃ W1,W1=w.drew.setCells g (0+i*3) news:=⟨_,rfl⟩
 have hcl:∀ ty,(Builtin.clear_ #[27] ty #[.slice (some ⟨g,(i+(n - (i+1)))*3,none⟩) (n - (i+(n - (i+1)))) (cap - (i+(n - (i+1))))]).run Tryz.prog W1=.ok (.tuple #[]) (W1.setCells g ((n - 1)*3) [int i64 0,int i64 0,int i64 0]):=λty=>by
  rw[show i+(n - (i+1))=n - 1 by omega,show n - (n - 1)=1 by omega];refine qld W1 ty g _ _ (λj hj=>?_) λj hj=>?_
  ·rw[hW1]
   exact World.isSome_setCells g news _ _ _ (hall _ (by omega))
  ·rw[hW1,World.frozen?_setCells]
   exact hf _ (by omega)
 have hW:Hid (W1=w.drew.setCells g (0+i*3) news):=hW1;have e1:(i:Int)+1=((i+1:Nat):Int):=by omega
 rw[e1];have hN:Hid (news=cs.drop ((i+1)*3)):=hnews;have hij:i < i+1:=by omega
 have hj:i+1<=n:=by omega
 have hne:i≠i+1:=by omega
 have h0:Hid (n - (i+1)+i=n - 1):=by show _=_;omega
 have h5:n - 1<=n:=by omega
 have h6:Hid (n - (n - 1)=1):=by show _=_;omega
 generalize hJ:i+1=j at*;have hJ':Hid (j=i+1):=hJ.symm;have hic:i<=cap:=by omega
 have hjc:j<=cap:=by omega
 have hle:i<=j:=by omega
 clear hl hc h1 hf hget hall hlen hW1 hnews e1 hJ;go_enter Tryz.func76,Tryz.ntmps76;go_wp2_with fail
 go_region_law_o (refine step_append_room rfl (.tmp 22) (.tmp 25) 27 rfl 51 i0 3 Tryz.underlying27 hi0 hz3 g 0 i cap (by simp[Act.eval,Act.put]) A (n - j) (cap - j) news (by simp[Act.eval,Act.put]) s1.out hsrc.out s2.out (by omega) s3.out ?_;rw[<-hW.out])
 go_wp2_with fail
 go_ret
 refine⟨?_,?_⟩
 ·have:=h0.out
  rw[show i+(n - j)=n - 1 by omega]
  rfl
 ·rw[hW.out,hN.out,Nat.zero_add]
theorem delPt.below {B:Nat} {a:World} (g:Nat) (hb:B<=g):∀ (vs:List Value) (o:Nat) {w:World},Below B a w->Below B a (w.setCells g o vs)
 | [],_,_,h=>h
 | v :: r,o,_,h=>delPt.below g hb r (o+1) (h.setCell (p:=⟨g,o,none⟩) hb v)
theorem delPt.row {w:World} {base:Nat} {ok:Nat->Prop} {v:Value} {xs:List S51} (h:Kd.R k51 51 w base ok v xs) (i:Nat) (hi:i < xs.length) (hx:xs.length<=1000):∃ g cap,v=.slice (some ⟨g,0,none⟩) xs.length cap/\base<=g/\xs.length<=cap/\
  Calls Tryz.prog 76 #[v,int i64 i,int i64 ((i:Int)+1)] w λe w'=>e=.returned (.slice (some ⟨g,0,none⟩) (xs.length - 1) cap)/\Kd.C k51 w' (some ⟨g,0,none⟩) (xs.length - 1) (xs.take i++xs.drop (i+1))/\∀ B a,B<=g->Below B a w->Below B a w':=by
 obtain⟨_,inner,⟨hl,ho⟩,hr⟩:=h;replace hl:inner.length=xs.length*3:=hl
 rcases ho with ⟨_,hn⟩|⟨g,cap,cur,rfl,hg,hh,hn,hm,hcs,htk⟩
 ·omega
 replace htk:cur.toList.take (xs.length*3)=inner:=htk;refine⟨g,cap,rfl,hg,hn,?_⟩;have hc:∀ j u,inner[j]? =some u->w.cell? ⟨g,j,none⟩=some u:=λj u hu=>by
  rw[<-htk,List.getElem?_take]at hu
  split at hu
  ·rw[qe hh j,<-hu,Array.getElem?_toList]
  ·cases hu
 have hseg:∀ j p,xs[j]? =some p->(inner.drop (j*3)).take 3=[int i64 p.f0.f0,int i64 p.f0.f1,int i64 p.f0.f2]:=λj p hj=>qf0 (hr.2 j p hj);have hat:∀ j p,xs[j]? =some p->∀ ii u,([int i64 p.f0.f0,int i64 p.f0.f1,int i64 p.f0.f2]:List Value)[ii]? =some u->ii < 3/\inner[j*3+ii]? =some u:=λj p hj ii u hu=>by
  have h3:ii < 3:=by have:=(List.getElem?_eq_some_iff.1 hu).1;simpa using this
  refine⟨h3,?_⟩;rw[<-hseg j p hj,List.getElem?_take,if_pos h3,List.getElem?_drop]at hu;exact hu
 have h1:∀ u∈inner,u.oneCell'=true:=λu hu=>by
  obtain⟨q,hq,rfl⟩:=List.mem_iff_getElem.1 hu;have hj:q / 3 < xs.length:=by omega
  have e:=hseg (q / 3) _ (List.getElem?_eq_getElem hj);have e2:((inner.drop (q / 3*3)).take 3)[q % 3]? =some inner[q]:=by
   rw[List.getElem?_take,if_pos (by omega),List.getElem?_drop,show q / 3*3+q % 3=q by omega];exact List.getElem?_eq_getElem hq
  rw[e]at e2
  rcases (show q % 3=0\/q % 3=1\/q % 3=2 by omega) with h|h|h<;>rw[h]at e2<;>(obtain e2:=Option.some.inj e2;rw[<-e2];rfl)
 refine(delPt.calls w g xs.length cap i inner hl hc h1 (λj _=>ql hh j) hn hm hi).mono ?_;rintro e w' ⟨rfl,rfl⟩;refine⟨rfl,⟨by simp only[List.length_append,List.length_take,List.length_drop];omega,by omega,λhp=>⟨⟨g,0,none⟩,rfl,λj p hj=>?_⟩⟩,λB a hB hb=>delPt.below g hB _ _ (delPt.below g hB _ _ (Qw hb))⟩;have hjl:j < xs.length - 1:=by
  have:=(List.getElem?_eq_some_iff.1 hj).1
  simp only[List.length_append,List.length_take,List.length_drop]at this;omega
 have hsome:∀ q,q < xs.length*3->(w.drew.cell? ⟨g,q,none⟩).isSome=true:=λq hq=>by
  show (w.cell? _).isSome=true
  rw[hc q _ (List.getElem?_eq_getElem (by omega))];rfl
 refine⟨[int i64 p.f0.f0,int i64 p.f0.f1,int i64 p.f0.f2],rfl,k51_mk _ p,λii u hu=>?_⟩;rw[Addr.add_lit,Nat.zero_add]
 show World.cell? _ ⟨g,j*3+ii,none⟩=some u
 by_cases hji:j < i
 ·rw[List.getElem?_append_left (by rw[List.length_take];omega),List.getElem?_take,if_pos hji]at hj
  obtain⟨h3,h4⟩:=hat j p hj ii u hu;rw[World.cell?_setCells_out g _ _ _ _ (λ_ _=>.inl (show j*3+ii < (xs.length - 1)*3 by omega)),World.cell?_setCells_out g _ _ _ _ (λ_ _=>.inl (show j*3+ii < i*3 by omega))];exact hc _ _ h4
 ·rw[List.getElem?_append_right (by rw[List.length_take];omega),List.length_take,List.getElem?_drop,show i+1+(j - min i xs.length)=j+1 by omega]at hj
  obtain⟨h3,h4⟩:=hat (j+1) p hj ii u hu;rw[World.cell?_setCells_out g _ _ _ _ (λ_ _=>.inl (show j*3+ii < (xs.length - 1)*3 by omega))];have hin:=World.cell?_setCells_in g (inner.drop ((i+1)*3)) (i*3) w.drew (λq hq=>hsome _ (by rw[List.length_drop]at hq;omega)) (j*3+ii - i*3) (by rw[List.length_drop];omega);rw[show i*3+(j*3+ii - i*3)=j*3+ii by omega]at hin;rw[hin,<-h4,List.getElem_drop,<-List.getElem?_eq_getElem]
  congr 1
  omega
def Z9.f (k:Nat) (a0:Int) (l1:List (S51)):Option (List Int):=(z9.f k l1).bind λt494=>((qk.f k a0 t494 6).bind λt497=>(if 0 < (t497.length:Int) then (some (zt t497 0)) else (none)))
theorem Z9.mono (a0 a1 k):LeO (Z9.f k a0 a1) (Z9.f (k+1) a0 a1):=by
 unfold Z9.f
 repeat' with_reducible first|intro _|apply qk.mono|apply z9.mono|apply Eb|apply Ec|apply Ed|apply Ee
theorem Z9.calls (k:Nat) (a0:Int) (A1:Option Addr) (c1:Nat) (l1:List (S51)) (r:List Int) (w:World) (hr1:Kd.C k51 w A1 l1.length l1) (hc1:l1.length<=c1) (h:Z9.f k a0 l1=some r):
  Calls Tryz.prog 77 #[int i64 a0,.slice A1 l1.length c1] w λe w'=>∃ v0_:Value,e=.returned (v0_)/\Kd.R (Kd.int i64) 3 w' w.heap.size (λ_=>True) v0_ r/\Below w.heap.size w w':=by
 have HR1:=am hr1;have HC1:=am hc1;clear hr1 hc1;have HB:=Em w;have H:=h;unfold Z9.f at H;clear h;replace H:=bs H;obtain⟨t494,A3,H⟩:=H;replace H:=bs H;obtain⟨t497,A4,H⟩:=H
 by_cases c5:0 < (t497.length:Int)
 ·rw[if_pos c5]at H
  have c5b0:=decide_eq_true c5;have c5b1:decide (0 < t497.length)=true:=decide_eq_true (by omega);clear c5;obtain rfl:=Option.some.inj H;go_enter Tryz.func77,Tryz.ntmps77
  go_wp2_with (first|((with_reducible refine za (f:=67) rfl ?_);refine gl 7 Tryz.func67 #[.slice A1 l1.length c1] ?_;(with_reducible refine(z9.calls k _ _ l1 t494 _ ?_ ?_ A3.out).mono ?_);exact wC HR1;exact HC1.out;rintro e w6 ⟨v495,rfl,ho0,hb⟩;refine⟨_,rfl,?_⟩;have HO496:=am (Kd.AD ho0 (bz HB));replace HB:=bq HB hb;(try clear hb);(try clear ho0);obtain⟨Ao7,co7,eo7⟩:=Kd.AJ HO496.out;subst eo7)|((with_reducible refine za (f:=66) rfl ?_);refine gl 8 Tryz.func66 #[int i64 a0,.slice Ao7 t494.length co7,int i64 6] ?_;(with_reducible refine(qk.calls k a0 _ _ t494 6 t497 _ ?_ ?_ A4.out).mono ?_);exact Kd.Ad (Kd.Al HO496.out).2.2 gs;exact(Kd.Al HO496.out).2.1;rintro e w8 ⟨v498,rfl,ho0,hb⟩;refine⟨_,rfl,?_⟩;have HO499:=am (Kd.AD (Kd.Bm ho0 (Kd.S_lt (wS HO496))) (bz HB));replace HO496:=eS HO496 (Kd.Bf ho0) hb;replace HB:=bq HB hb;(try clear hb);(try clear ho0);obtain⟨Ao9,co9,eo9⟩:=Kd.AJ HO499.out;subst eo9;have p500:0<=(0:Int):=(by omega);have q500:0 < (t497.length:Int):=od;obtain⟨ad500,A500_0,c500_0,e500,hx500_0,hl500_0,hi500_0⟩:=qat (Kd.Al HO499.out).2.2 0 p500 q500;cases e500;obtain⟨ce500,hce500,hMe500,hcc500⟩:=Kd.Ci HO499.out [] 0 p500 (by first|exact q500|exact od|(have e_:=(Kd.Al HO499.out).1;omega));obtain⟨ve500_0,rfl,ge500_0⟩:=hMe500;have hv500_0:=hcc500 0 _ rfl;rw[Nat.add_zero,show (KI).sz=1 from rfl,Nat.mul_one]at hv500_0;replace hv500_0:=Option.some.inj (hv500_0.symm.trans hx500_0);rw[hv500_0]at ge500_0;have HL500_0:=am (show Kd.R (Kd.int i64) 3 _ _ _ _ (zt t497 0) from ge500_0);clear hv500_0 ge500_0;clear hcc500 hce500;have qi500:(0 < t497.length)=True:=eq_true (by omega);(try rw[show ((0:Int)).toNat=0 from rfl]at hx500_0);(try rw[Addr.add_zero']at hx500_0);clear hi500_0 hl500_0;replace p500:=eq_true p500;replace q500:=eq_true q500))
  go_ret
  exact⟨_,fq,Kd.Af (Kd.Ae HL500_0.out (λ_ hk=>trivial)) gs,bw HB⟩
 ·rw[if_neg c5]at H
  exact absurd H (by simp)
mutual
def q9.l0 :Nat->Int->List (S51)->Int->Int->Option ((List (S51)))
 | 0,_,_,_,_=>none
 | k+1,x0,x3,x10,x11=>if x11 < x10 then (if x3.length < 5864062014805 then (q9.l0 k x0 (x3++[(⟨(⟨0,1,x11⟩:S49)⟩:S51)]) x10 (wrap64 (x11+1))) else (none)) else (q9.l1 k x0 x3 x0 0)
def q9.l1 :Nat->Int->List (S51)->Int->Int->Option ((List (S51)))
 | 0,_,_,_,_=>none
 | k+1,x0,x3,x21,x22=>if x22 < x21 then (q9.l2 k x0 x3 x22 x21 x22 x0 0) else (some x3)
def q9.l2 :Nat->Int->List (S51)->Int->Int->Int->Int->Int->Option ((List (S51)))
 | 0,_,_,_,_,_,_,_=>none
 | k+1,x0,x3,x5,x21,x22,x25,x26=>if x26 < x25 then (if x3.length < 5864062014805 then (q9.l2 k x0 (x3++[(⟨(⟨1,x5,x26⟩:S49)⟩:S51)]) x5 x21 x22 x25 (wrap64 (x26+1))) else (none)) else (q9.l1 k x0 x3 x21 (wrap64 (x22+1)))
end
def q9.f (k:Nat) (a0:Int):Option ((List (S51))):=q9.l0 k a0 (([(⟨(⟨0,0,1⟩:S49)⟩:S51)]:List (S51))) a0 0
theorem q9.Ag :∀ k,(∀ y0 y1 y2 y3,LeO (q9.l0 k y0 y1 y2 y3) (q9.l0 (k+1) y0 y1 y2 y3))/\(∀ y0 y1 y2 y3,LeO (q9.l1 k y0 y1 y2 y3) (q9.l1 (k+1) y0 y1 y2 y3))/\(∀ y0 y1 y2 y3 y4 y5 y6,LeO (q9.l2 k y0 y1 y2 y3 y4 y5 y6) (q9.l2 (k+1) y0 y1 y2 y3 y4 y5 y6))
 | 0=>⟨λ_ _ _ _ r h=>by simp[q9.l0]at h,λ_ _ _ _ r h=>by simp[q9.l1]at h,λ_ _ _ _ _ _ _ r h=>by simp[q9.l2]at h⟩
 | k+1=>by
  obtain⟨ih0,ih1,ih2⟩:=q9.Ag k;refine⟨?_,?_,?_⟩
  ·intro y0 y1 y2 y3
   unfold q9.l0
   repeat' with_reducible first|intro _|apply ih0|apply ih1|apply ih2|apply Eb|apply Ec|apply Ed|apply Ee
  ·intro y0 y1 y2 y3
   unfold q9.l1
   repeat' with_reducible first|intro _|apply ih0|apply ih1|apply ih2|apply Eb|apply Ec|apply Ed|apply Ee
  ·intro y0 y1 y2 y3 y4 y5 y6
   unfold q9.l2
   repeat' with_reducible first|intro _|apply ih0|apply ih1|apply ih2|apply Eb|apply Ec|apply Ed|apply Ee
theorem q9.mono (a0 k):LeO (q9.f k a0) (q9.f (k+1) a0):=by
 obtain⟨ih0,ih1,ih2⟩:=q9.Ag k;unfold q9.f
 repeat' with_reducible first|intro _|apply ih0|apply ih1|apply ih2|apply Eb|apply Ec|apply Ed|apply Ee
theorem q9.calls (k:Nat) (a0:Int) (r:List (S51)) (w:World) (h:q9.f k a0=some r):
  Calls Tryz.prog 79 #[int i64 a0] w λe w'=>∃ v0_:Value,e=.returned (v0_)/\Kd.R k51 51 w' w.heap.size (λ_=>True) v0_ r/\Below w.heap.size w w':=by
 have HB:=Em w;have H:=h;unfold q9.f at H;clear h;generalize hy501:(([(⟨(⟨0,0,1⟩:S49)⟩:S51)]:List (S51)))=y501 at H;have Ny501:=am hy501.symm;clear hy501;have H':=am H;clear H;go_enter Tryz.func79,Tryz.ntmps79
 go_wp2_with (first|((with_reducible refine zd (N:=9) rfl ?_);refine Kd.AR k51 _ 51 ?hg (N:=9) ?hd (xs:=([(⟨(⟨0,0,1⟩:S49)⟩:S51)]:List (S51))) (inner:=[int i64 0,int i64 0,int i64 1]) (ok:=λ_=>True) (okp:=λ_=>True) ?hr ?hp (λ_ hk=>hk) trivial (Below.refl _ _) (Nat.le_refl _) (by simp) ?_;(case hd=>rfl);(case hg=>rfl);(case hr=>first|(go_simp;done)|(go_simp;rfl));(case hp=>exact(Reps.c3 (show Kd.M k51 _ _ _ (⟨(⟨0,0,1⟩:S49)⟩:S51) [int i64 0,int i64 0,int i64 1] from (qap _ _ _ (⟨(⟨0,0,1⟩:S49)⟩:S51) )) (Reps.none _ _)));intro v502 w2 ho3 hb hg_ hnew_;clear hg_ hnew_;rw[<-Ny501.out]at ho3;have HO503:=am (Kd.Ai ho3 (bz HB));replace HB:=bq HB hb;clear hb ho3))
 go_loopg [3,11] k (λkq v3 v11 w'=>∃ (x3_1:List (S51)) (x11_1:Int),v11=int i64 x11_1/\qf (q9.l0 kq a0 x3_1 a0 x11_1=some r)/\qf (kq<=k)/\qf (Kd.R k51 51 w' w.heap.size (λ_=>True) v3 x3_1)/\qf (Below w.heap.size w w'))
 case atStart=>exact⟨(y501),(0),fr,H',⟨Nat.le_refl _⟩,⟨wR HO503⟩,⟨bw HB⟩⟩
 case round=>
  clear H';try clear p2;try clear c3
  obtain⟨x3_1,x11_1,rfl,HA,HK1,HO_3,HB⟩:=hrel
  cases gk with
  | zero=>exact absurd HA.out (by simp[q9.l0])
  | succ k1=>
   have H:=HA.out;clear HA;simp only[q9.l0]at H;replace H:=Eg H;rcases H with ⟨c4b0,H⟩|⟨c4b0,H⟩
   ·replace H:=ifn H;obtain⟨c5,H⟩:=H;have LMc5:=am c5;clear c5
    generalize hy504:(x3_1++[(⟨(⟨0,1,x11_1⟩:S49)⟩:S51)]:List (S51))=y504 at H;have Ny504:=am hy504.symm;clear hy504;have H':=am H;clear H
    go_wp2_with (first|((with_reducible refine jz (b:=.append) (xs:=#[.tmp 14,.tmp 18]) rfl ?_);at_builtin;refine Kd.Au k51 (w0:=w) w.heap.size rfl (.tmp 14) (.tmp 18) 27 51 (.agg #[(int i64 0),(int i64 0),(int i64 0)]) 24 rfl Tryz.underlying27 qb2 rfl (by decide) (by omega) u3 x3_1 (⟨(⟨0,1,x11_1⟩:S49)⟩:S51) [int i64 0,int i64 1,int i64 x11_1] (λ_=>True) (λ_=>False) rfl rfl ?aP (λ_ hk=>hk.elim) ?aF ?aO ?aB ?aS ?aL ?_;(case aP=>exact qap _ _ _ (⟨(⟨0,1,x11_1⟩:S49)⟩:S51));(case aB=>exact(bw HB));(case aF=>exact(λ_ _=>trivial));(case aO=>exact(wR HO_3));(case aS=>exact(bz HB));(case aL=>have:=LMc5.out;omega);intro v505 w6 ho hb hg hat;rw[<-Ny504.out]at ho;replace HB:=am (hb);have HO506:=am (ho);clear HO_3;clear ho hb hg hat))
    go_roundg k1
    case measure=>have:=HK1.out;omega
    case rel=>exact⟨(y504),(wrap64 (x11_1+1)),fr,H',⟨by have:=HK1.out;omega⟩,⟨wR HO506⟩,⟨bw HB⟩⟩
   ·have H':=am H;clear H;go_wp2
    go_loopg [3,22] k1 (λkq v3 v22 w'=>∃ (x3_2:List (S51)) (x22_2:Int),v22=int i64 x22_2/\qf (q9.l1 kq a0 x3_2 a0 x22_2=some r)/\qf (kq<=k1)/\qf (Kd.R k51 51 w' w.heap.size (λ_=>True) v3 x3_2)/\qf (Below w.heap.size w w'))
    case atStart=>exact⟨(x3_1),(0),fr,H',⟨Nat.le_refl _⟩,⟨wR HO_3⟩,⟨bw HB⟩⟩
    case round=>
     clear H';try clear p2;try clear c3;try clear c4;try clear c4b0;try clear c5;try clear p6;try clear p2
     obtain⟨x3_2,x22_2,rfl,HA,HK2,HO_3,HB⟩:=hrel
     cases gk with
     | zero=>exact absurd HA.out (by simp[q9.l1])
     | succ k2=>
      have H:=HA.out;clear HA;simp only[q9.l1]at H;replace H:=Eg H;rcases H with ⟨c7b0,H⟩|⟨c7b0,H⟩
      ·have H':=am H;clear H;go_wp2
       go_loopg [3,26] k2 (λkq v3 v26 w'=>∃ (x3_3:List (S51)) (x26_3:Int),v26=int i64 x26_3/\qf (q9.l2 kq a0 x3_3 x22_2 a0 x22_2 a0 x26_3=some r)/\qf (kq<=k2)/\qf (Kd.R k51 51 w' w.heap.size (λ_=>True) v3 x3_3)/\qf (Below w.heap.size w w'))
       case atStart=>exact⟨(x3_2),(0),fr,H',⟨Nat.le_refl _⟩,⟨wR HO_3⟩,⟨bw HB⟩⟩
       case round=>
        clear H';try clear p2;try clear c3;try clear c4;try clear c4b0;try clear c5;try clear p6;try clear c7;try clear c7b0;try clear p2;try clear p6
        obtain⟨x3_3,x26_3,rfl,HA,HK3,HO_3,HB⟩:=hrel
        cases gk with
        | zero=>exact absurd HA.out (by simp[q9.l2])
        | succ k3=>
         have H:=HA.out;clear HA;simp only[q9.l2]at H;replace H:=Eg H;rcases H with ⟨c8b0,H⟩|⟨c8b0,H⟩
         ·replace H:=ifn H;obtain⟨c9,H⟩:=H;have LMc9:=am c9;clear c9
          generalize hy507:(x3_3++[(⟨(⟨1,x22_2,x26_3⟩:S49)⟩:S51)]:List (S51))=y507 at H;have Ny507:=am hy507.symm;clear hy507;have H':=am H;clear H
          go_wp2_with (first|((with_reducible refine jz (b:=.append) (xs:=#[.tmp 29,.tmp 34]) rfl ?_);at_builtin;refine Kd.Au k51 (w0:=w) w.heap.size rfl (.tmp 29) (.tmp 34) 27 51 (.agg #[(int i64 0),(int i64 0),(int i64 0)]) 24 rfl Tryz.underlying27 qb2 rfl (by decide) (by omega) u3 x3_3 (⟨(⟨1,x22_2,x26_3⟩:S49)⟩:S51) [int i64 1,int i64 x22_2,int i64 x26_3] (λ_=>True) (λ_=>False) rfl rfl ?aP (λ_ hk=>hk.elim) ?aF ?aO ?aB ?aS ?aL ?_;(case aP=>exact qap _ _ _ (⟨(⟨1,x22_2,x26_3⟩:S49)⟩:S51));(case aB=>exact(bw HB));(case aF=>exact(λ_ _=>trivial));(case aO=>exact(wR HO_3));(case aS=>exact(bz HB));(case aL=>have:=LMc9.out;omega);intro v508 w10 ho hb hg hat;rw[<-Ny507.out]at ho;replace HB:=am (hb);have HO509:=am (ho);clear HO_3;clear ho hb hg hat))
          go_roundg k3
          case measure=>have:=HK1.out;have:=HK2.out;have:=HK3.out;omega
          case rel=>exact⟨(y507),(wrap64 (x26_3+1)),fr,H',⟨by have:=HK1.out;have:=HK2.out;have:=HK3.out;omega⟩,⟨wR HO509⟩,⟨bw HB⟩⟩
         ·have H':=am H;clear H;go_wp2
          go_roundg k3
          case measure=>have:=HK1.out;have:=HK2.out;have:=HK3.out;omega
          case rel=>exact⟨(x3_3),(wrap64 (x22_2+1)),fr,H',⟨by have:=HK1.out;have:=HK2.out;have:=HK3.out;omega⟩,⟨wR HO_3⟩,⟨bw HB⟩⟩
      ·obtain rfl:=Option.some.inj H;go_wp2;go_ret
       exact⟨_,fq,wR HO_3,bw HB⟩
def je.l0 :Nat->List (S51)->Int->Int->Int->Int->Int->Option (Int)
 | 0,_,_,_,_,_,_=>none
 | k+1,x0,x7,x8,x511000,x511001,x511002=>if x8 < x7 then (if 0<=x8 then (if x8 < (x0.length:Int) then (if x511000=((qg x0 x8).f0.f0) then (if x511001=((qg x0 x8).f0.f1) then (if x511002=((qg x0 x8).f0.f2) then (some x8) else (je.l0 k x0 x7 (wrap64 (x8+1)) x511000 x511001 x511002)) else (je.l0 k x0 x7 (wrap64 (x8+1)) x511000 x511001 x511002)) else (je.l0 k x0 x7 (wrap64 (x8+1)) x511000 x511001 x511002)) else (none)) else (none)) else (some (-1))
def je.f (k:Nat) (l0:List (S51)) (a1_0:Int) (a1_1:Int) (a1_2:Int):Option (Int):=je.l0 k l0 (l0.length:Int) 0 a1_0 a1_1 a1_2
theorem je.Ag :∀ k,(∀ y0 y1 y2 y3 y4 y5,LeO (je.l0 k y0 y1 y2 y3 y4 y5) (je.l0 (k+1) y0 y1 y2 y3 y4 y5))
 | 0=>λ_ _ _ _ _ _ r h=>by simp[je.l0]at h
 | k+1=>by
  have ih0:=je.Ag k
  ·intro y0 y1 y2 y3 y4 y5
   unfold je.l0
   repeat' with_reducible first|intro _|apply ih0|apply Eb|apply Ec|apply Ed|apply Ee
theorem je.mono (a0 a1 a2 a3 k):LeO (je.f k a0 a1 a2 a3) (je.f (k+1) a0 a1 a2 a3):=by
 have ih0:=je.Ag k;unfold je.f
 repeat' with_reducible first|intro _|apply ih0|apply Eb|apply Ec|apply Ed|apply Ee
theorem qj9 (a x:Int) (d:Nat) (W:World):(Op.equalIn (d+1) 3 (int i64 a) (int i64 x)).run Tryz.prog W=.ok (a == x) W:=by
 unfold Op.equalIn
 simp[Sem.run_bind,run_underlying Tryz.underlying3]
theorem DE (a b c x y z:Int) (W:World):(Op.equalIn 9999 49 (.agg #[int i64 a,int i64 b,int i64 c]) (.agg #[int i64 x,int i64 y,int i64 z])).run Tryz.prog W=.ok (a == x && (b == y && c == z)) W:=by
 obtain⟨i,hi,_⟩:=Option.map_eq_some_iff.1 Ju;have p0:∀ a b c:Int,(part 3 #[int i64 a,int i64 b,int i64 c] 0).run Tryz.prog W=.ok (int i64 a) W:=λa b c=>by kernel_rfl
 have p1:∀ a b c:Int,(part 3 #[int i64 a,int i64 b,int i64 c] 1).run Tryz.prog W=.ok (int i64 b) W:=λa b c=>by kernel_rfl
 have p2:∀ a b c:Int,(part 3 #[int i64 a,int i64 b,int i64 c] 2).run Tryz.prog W=.ok (int i64 c) W:=λa b c=>by kernel_rfl
 rw[run_equalIn_array (P:=Tryz.prog) (w:=W) 9998 _ _ Tryz.underlying49 hi,show Tryz.prog.cellsOf 3=1 by kernel_rfl,show List.range 3=[0,1,2] from rfl];simp only[Op.eqItems,Nat.mul_one,Sem.run_bind,p0,p1,p2,Result.andThen_ok,qj9 a x 9997 W,qj9 b y 9997 W,qj9 c z 9997 W]
 by_cases h1:a=x<;>by_cases h2:b=y<;>by_cases h3:c=z<;>simp[h1,h2,h3,p0,p1,p2,qj9]
theorem qd5 (a b c x y z:Int) (W:World):(Op.equalIn 10000 51 (.agg #[int i64 a,int i64 b,int i64 c]) (.agg #[int i64 x,int i64 y,int i64 z])).run Tryz.prog W=.ok (a == x && (b == y && c == z)) W:=by
 refine quo (d:=9999) Tryz.underlying51 (by kernel_rfl) ?_;exact qlx rfl (by kernel_rfl) (by kernel_rfl) (DE a b c x y z W)
theorem je.calls (k:Nat) (A0:Option Addr) (c0:Nat) (l0:List (S51)) (a1_0:Int) (a1_1:Int) (a1_2:Int) (r:Int) (w:World) (hr0:Kd.C k51 w A0 l0.length l0) (hc0:l0.length<=c0) (h:je.f k l0 a1_0 a1_1 a1_2=some r):
  Calls Tryz.prog 111 #[.slice A0 l0.length c0,.agg #[int i64 a1_0,int i64 a1_1,int i64 a1_2]] w λe w'=>e=.returned (int i64 r)/\Below w.heap.size w w':=by
 have HR0:=am hr0;clear hr0 hc0;have HB:=Em w;have H:=h;unfold je.f at H;clear h;have H':=am H;clear H;go_enter Tryz.func111,Tryz.ntmps111
 go_wp2_with (first|((with_reducible refine zd (N:=3) rfl ?_);refine xe_ 3 51 #[int i64 a1_0,int i64 a1_1,int i64 a1_2] ?_;intro gb510 hg w3 hbox hb;have BK510:=am (hbox);have GW510:=Ek HB hg;replace HB:=bq HB hb;clear hb hbox hg))
 repeat (go_quiet (first|((with_reducible refine zd (N:=3) rfl ?_);refine xe_ 3 51 #[int i64 a1_0,int i64 a1_1,int i64 a1_2] ?_;intro gb510 hg w3 hbox hb;have n0_:=bq HB hb;have n1_:=am (hbox);have n2_:=Ek HB hg;have n3_:=Ek HB hg;clear HB;have HB:=n0_;have BK510:=n1_;have GW510:=n2_;clear n0_ n1_ n2_ n3_;clear hb hbox hg));try go_wp2_with (first|((with_reducible refine zd (N:=3) rfl ?_);refine xe_ 3 51 #[int i64 a1_0,int i64 a1_1,int i64 a1_2] ?_;intro gb510 hg w3 hbox hb;have n0_:=bq HB hb;have n1_:=am (hbox);have n2_:=Ek HB hg;have n3_:=Ek HB hg;clear HB;have HB:=n0_;have BK510:=n1_;have GW510:=n2_;clear n0_ n1_ n2_ n3_;clear hb hbox hg)))
 go_loopg [8] k (λkq v8 w'=>∃ (x8_1:Int),v8=int i64 x8_1/\qf (je.l0 kq l0 (l0.length:Int) x8_1 a1_0 a1_1 a1_2=some r)/\qf (kq<=k)/\qf (w'.heap[gb510]? =some (.cells #[int i64 a1_0,int i64 a1_1,int i64 a1_2] 51 (0,0)))/\qf (Below w.heap.size w w'))
 case atStart=>exact⟨(0),fr,H',⟨Nat.le_refl _⟩,⟨by (with_reducible repeat (first|refine qw ?_ _|refine qy ?_|refine qx ?_ _));exact BK510.out⟩,⟨bx_ HB⟩⟩
 case round=>
  clear H';try clear c1;try clear p2
  obtain⟨x8_1,rfl,HA,HK1,BK510,HB⟩:=hrel
  cases gk with
  | zero=>exact absurd HA.out (by simp[je.l0])
  | succ k1=>
   have H:=HA.out;clear HA;simp only[je.l0]at H;replace H:=Eg H;rcases H with ⟨c4b0,H⟩|⟨c4b0,H⟩
   ·replace H:=Ef H;obtain⟨c5b0,H⟩:=H;replace H:=Ef H;obtain⟨c6b0,H⟩:=H
    by_cases c7:a1_0=((qg l0 x8_1).f0.f0)
    ·rw[if_pos c7]at H
     have c7b0:=beq_iff_eq.mpr c7;have c7b1:=bne_eq_false_iff_eq.mpr c7;clear c7
     by_cases c8:a1_1=((qg l0 x8_1).f0.f1)
     ·rw[if_pos c8]at H
      have c8b0:=beq_iff_eq.mpr c8;have c8b1:=bne_eq_false_iff_eq.mpr c8;clear c8
      by_cases c9:a1_2=((qg l0 x8_1).f0.f2)
      ·rw[if_pos c9]at H
       have c9b0:=beq_iff_eq.mpr c9;have c9b1:=bne_eq_false_iff_eq.mpr c9;clear c9;obtain rfl:=Option.some.inj H;have hcz10_0:=En BK510.out;have hcz10_1:=Eo BK510.out;have hcz10_2:=Ep BK510.out;have hfz10_0:=ql BK510.out 0;have hfz10_1:=ql BK510.out 1;have hfz10_2:=ql BK510.out 2;have p511:0<=(x8_1:Int):=od;have q511:x8_1 < (l0.length:Int):=od;obtain⟨ad511,e511,hx511_0,hx511_1,hx511_2⟩:=Zn HR0.out x8_1 p511 q511
       cases e511
       replace hx511_0:=wcl HB hx511_0;replace hx511_1:=wcl HB hx511_1;replace hx511_2:=wcl HB hx511_2;replace p511:=eq_true p511;replace q511:=eq_true q511;go_wp2
       have hEq:=λW=>qd5 a1_0 a1_1 a1_2 (qg l0 x8_1).f0.f0 (qg l0 x8_1).f0.f1 (qg l0 x8_1).f0.f2 W
       repeat (go_quiet (fail);try go_wp2)
       go_ret
       exact⟨fq,bx_ HB⟩
      ·rw[if_neg c9]at H
       have c9b0:=beq_eq_false_iff_ne.mpr c9;have c9b1:=bne_iff_ne.mpr c9;have H':=am H;clear H;have hcz11_0:=En BK510.out;have hcz11_1:=Eo BK510.out;have hcz11_2:=Ep BK510.out;have hfz11_0:=ql BK510.out 0;have hfz11_1:=ql BK510.out 1;have hfz11_2:=ql BK510.out 2;have p511:0<=(x8_1:Int):=od;have q511:x8_1 < (l0.length:Int):=od;obtain⟨ad511,e511,hx511_0,hx511_1,hx511_2⟩:=Zn HR0.out x8_1 p511 q511
       cases e511
       replace hx511_0:=wcl HB hx511_0;replace hx511_1:=wcl HB hx511_1;replace hx511_2:=wcl HB hx511_2;replace p511:=eq_true p511;replace q511:=eq_true q511;go_wp2
       have hEq:=λW=>qd5 a1_0 a1_1 a1_2 (qg l0 x8_1).f0.f0 (qg l0 x8_1).f0.f1 (qg l0 x8_1).f0.f2 W
       repeat (go_quiet (fail);try go_wp2)
       go_roundg k1
       case measure=>have:=HK1.out;omega
       case rel=>exact⟨(wrap64 (x8_1+1)),fr,H',⟨by have:=HK1.out;omega⟩,⟨by (with_reducible repeat (first|refine qw ?_ _|refine qy ?_|refine qx ?_ _));exact BK510.out⟩,⟨bx_ HB⟩⟩
     ·rw[if_neg c8]at H
      have c8b0:=beq_eq_false_iff_ne.mpr c8;have c8b1:=bne_iff_ne.mpr c8;have H':=am H;clear H;have hcz12_0:=En BK510.out;have hcz12_1:=Eo BK510.out;have hcz12_2:=Ep BK510.out;have hfz12_0:=ql BK510.out 0;have hfz12_1:=ql BK510.out 1;have hfz12_2:=ql BK510.out 2;have p511:0<=(x8_1:Int):=od;have q511:x8_1 < (l0.length:Int):=od;obtain⟨ad511,e511,hx511_0,hx511_1,hx511_2⟩:=Zn HR0.out x8_1 p511 q511
      cases e511
      replace hx511_0:=wcl HB hx511_0;replace hx511_1:=wcl HB hx511_1;replace hx511_2:=wcl HB hx511_2;replace p511:=eq_true p511;replace q511:=eq_true q511;go_wp2
      have hEq:=λW=>qd5 a1_0 a1_1 a1_2 (qg l0 x8_1).f0.f0 (qg l0 x8_1).f0.f1 (qg l0 x8_1).f0.f2 W
      repeat (go_quiet (fail);try go_wp2)
      go_roundg k1
      case measure=>have:=HK1.out;omega
      case rel=>exact⟨(wrap64 (x8_1+1)),fr,H',⟨by have:=HK1.out;omega⟩,⟨by (with_reducible repeat (first|refine qw ?_ _|refine qy ?_|refine qx ?_ _));exact BK510.out⟩,⟨bx_ HB⟩⟩
    ·rw[if_neg c7]at H
     have c7b0:=beq_eq_false_iff_ne.mpr c7;have c7b1:=bne_iff_ne.mpr c7;have H':=am H;clear H;have hcz13_0:=En BK510.out;have hcz13_1:=Eo BK510.out;have hcz13_2:=Ep BK510.out;have hfz13_0:=ql BK510.out 0;have hfz13_1:=ql BK510.out 1;have hfz13_2:=ql BK510.out 2;have p511:0<=(x8_1:Int):=od;have q511:x8_1 < (l0.length:Int):=od;obtain⟨ad511,e511,hx511_0,hx511_1,hx511_2⟩:=Zn HR0.out x8_1 p511 q511
     cases e511
     replace hx511_0:=wcl HB hx511_0;replace hx511_1:=wcl HB hx511_1;replace hx511_2:=wcl HB hx511_2;replace p511:=eq_true p511;replace q511:=eq_true q511;go_wp2
     have hEq:=λW=>qd5 a1_0 a1_1 a1_2 (qg l0 x8_1).f0.f0 (qg l0 x8_1).f0.f1 (qg l0 x8_1).f0.f2 W
     repeat (go_quiet (fail);try go_wp2)
     go_roundg k1
     case measure=>have:=HK1.out;omega
     case rel=>exact⟨(wrap64 (x8_1+1)),fr,H',⟨by have:=HK1.out;omega⟩,⟨by (with_reducible repeat (first|refine qw ?_ _|refine qy ?_|refine qx ?_ _));exact BK510.out⟩,⟨bx_ HB⟩⟩
   ·obtain rfl:=Option.some.inj H;go_wp2
    have hEq:=λW=>qd5 a1_0 a1_1 a1_2 (qg l0 x8_1).f0.f0 (qg l0 x8_1).f0.f1 (qg l0 x8_1).f0.f2 W
    repeat (go_quiet (fail);try go_wp2)
    go_ret
    exact⟨fq,bx_ HB⟩
def Zs.f (k:Nat) (l0:List (S51)) (a1_0:Int) (a1_1:Int) (a1_2:Int):Option (Bool):=(je.f k l0 a1_0 a1_1 a1_2).bind λt513=>(some (decide (t513>=0)))
theorem Zs.mono (a0 a1 a2 a3 k):LeO (Zs.f k a0 a1 a2 a3) (Zs.f (k+1) a0 a1 a2 a3):=by
 unfold Zs.f
 repeat' with_reducible first|intro _|apply je.mono|apply Eb|apply Ec|apply Ed|apply Ee
theorem Zs.calls (k:Nat) (A0:Option Addr) (c0:Nat) (l0:List (S51)) (a1_0:Int) (a1_1:Int) (a1_2:Int) (r:Bool) (w:World) (hr0:Kd.C k51 w A0 l0.length l0) (hc0:l0.length<=c0) (h:Zs.f k l0 a1_0 a1_1 a1_2=some r):
  Calls Tryz.prog 80 #[.slice A0 l0.length c0,.agg #[int i64 a1_0,int i64 a1_1,int i64 a1_2]] w λe w'=>e=.returned (.bool r)/\Below w.heap.size w w':=by
 have HR0:=am hr0;have HC0:=am hc0;clear hr0 hc0;have HB:=Em w;have H:=h;unfold Zs.f at H;clear h;replace H:=bs H;obtain⟨t513,A3,H⟩:=H;obtain rfl:=Option.some.inj H;go_enter Tryz.func80,Tryz.ntmps80
 go_wp2_with (first|((with_reducible refine zd (N:=3) rfl ?_);refine xe_ 3 51 #[int i64 a1_0,int i64 a1_1,int i64 a1_2] ?_;intro gb512 hg w4 hbox hb;have BK512:=am (hbox);have GW512:=Ek HB hg;replace HB:=bq HB hb;clear hb hbox hg;have hcz5_0:=En BK512.out;have hcz5_1:=Eo BK512.out;have hcz5_2:=Ep BK512.out;have hfz5_0:=ql BK512.out 0;have hfz5_1:=ql BK512.out 1;have hfz5_2:=ql BK512.out 2)|((with_reducible refine za (f:=111) rfl ?_);refine gl 7 Tryz.func111 #[.slice A0 l0.length c0,.agg #[int i64 a1_0,int i64 a1_1,int i64 a1_2]] ?_;(with_reducible refine(je.calls k _ _ l0 a1_0 a1_1 a1_2 t513 _ ?_ ?_ A3.out).mono ?_);exact Kd.Ad HR0.out (bw HB);exact HC0.out;rintro e w6 ⟨rfl,hb⟩;refine⟨_,rfl,?_⟩;replace HB:=am (ze (bx_ HB) hb);(try clear hb)))
 go_ret
 exact⟨fq,bx_ HB⟩
theorem qlk {w:World} {A:Option Addr} {n:Nat} {rows:List (List Int)} (h:Kd.C KI w A n rows) (j:Nat) (hj:j < rows.length):∃ ad B c,A=some ad/\w.cell? (ad.add j)=some (.slice B (rows[j]).length c)/\(rows[j]).length<=c/\Kd.C (Kd.int i64) w B (rows[j]).length rows[j]:=by
 obtain⟨hl,hm,hr⟩:=h;obtain⟨ad,rfl,hc⟩:=hr (by omega);obtain⟨cs,_,⟨B,c,rfl,h1,h2⟩,hcell⟩:=hc j _ (List.getElem?_eq_getElem hj);refine⟨ad,B,c,rfl,?_,h1,h2⟩
 have:=hcell 0 (.slice B (rows[j]).length c) rfl
 simpa [KI,Kd.slice] using this
theorem qoc {w:World} {A:Option Addr} {ca:Nat} {x:List Int} (hx:Kd.C (Kd.int i64) w A x.length x) (hca:x.length<=ca):
  Kd.C KI (w.alloc (.cells #[.slice A x.length ca] 37)) (some ⟨w.heap.size,0,none⟩) 1 [x]:=by
 refine⟨rfl,by omega,λ_=>⟨⟨w.heap.size,0,none⟩,rfl,λj p hj=>?_⟩⟩;have hb:=qd8 w (.cells #[.slice A x.length ca] 37)
 match j,hj with
 | 0,hj=>
  simp at hj
  subst hj;refine⟨[.slice A x.length ca],rfl,⟨A,ca,rfl,hca,Kd.BI hx _⟩,λi u hu=>?_⟩
  match i,hu with
  | 0,hu=>simp at hu;subst hu;rw[Jz];exact(qe hb _).trans rfl
def Q8.f (k:Nat) (a0:Int) (l1:List Int):Option (List Int):=(zl.f k a0 [l1]).bind λt=>some (t.headD [])
theorem Q8.mono (a0 a1 k):LeO (Q8.f k a0 a1) (Q8.f (k+1) a0 a1):=by
 unfold Q8.f;exact LeO.bind (zl.mono _ _ _) λ_=>LeO.refl _
theorem Q8.calls (k:Nat) (a0:Int) (A1:Option Addr) (c1:Nat) (l1:List Int) (r:List Int) (w:World) (hr1:Kd.C (Kd.int i64) w A1 l1.length l1) (hc1:l1.length<=c1) (h:Q8.f k a0 l1=some r):
  Calls Tryz.prog 86 #[int i64 a0,.slice A1 l1.length c1] w λe w'=>∃ v0:Value,e=.returned v0/\Kd.R (Kd.int i64) 3 w' w.heap.size (λ_=>True) v0 r/\Below w.heap.size w w':=by
 obtain⟨t,hred,h'⟩:=Option.bind_eq_some_iff.1 h;clear h;have HRED:=Lib.hid hred;have HL1:=Lib.hid (qoc hr1 hc1);have H:=Lib.hid h';clear hred hr1 hc1 h';go_enter Tryz.func86,Tryz.ntmps86;go_wp2_with fail;refine(zl.calls k a0 _ 1 [l1] t _ HL1.out (Nat.le_refl _) HRED.out).mono ?_;rintro e w2 ⟨v0,rfl,hS,hb⟩;have HB:Hid (Below w.heap.size w w2):=Lib.hid (ze (Qm (Below.refl _ _) _) hb);have HS:=Lib.hid (Kd.AD hS (show w.heap.size<=_ by simp));clear hS hb;obtain⟨Ao,co,eo⟩:=Kd.AJ HS.out;subst eo
 by_cases hz:t.length=0
 ·have e0:t=[]:=List.eq_nil_of_length_eq_zero hz
  subst e0;obtain rfl:r=[]:=by have h:=H.out;simpa using h.symm
  clear hz;have z1:(([]:List (List Int)).length)=0:=rfl;rw[z1]
  go_wp2;go_ret
  exact⟨_,rfl,Kd.Dd _ _ _ _ _,HB.out⟩
 ·have hpos:0 < t.length:=by omega
  obtain⟨ad,B,c,e,hx,hlc,hC⟩:=qlk (Kd.Al HS.out).2.2 0 hpos;subst e;obtain⟨ce,hce,hMe,hcc⟩:=Kd.Ci HS.out [] 0 (by omega) (by omega);obtain⟨ve,rfl,ge⟩:=hMe;have hv:=hcc 0 _ rfl;rw[Nat.add_zero,show (KI).sz=1 from rfl,Nat.mul_one]at hv;replace hv:=Option.some.inj (hv.symm.trans hx);rw[hv]at ge;have er:t.getD 0 []=r:=by
   have h:=H.out
   match t,hpos with
   | x :: t,_=>simpa using h
  have HR:Hid (Kd.R (Kd.int i64) 3 w2 w.heap.size (λ_=>True) (.slice B (t[0]).length c) r):=Lib.hid (by
   have g:=Kd.Ae (ok':=λ_=>True) ge (λ_ _=>trivial);rw[<-er];exact g)
  have hz1:((t.length:Int) == 0)=false:=by simpa using hz
  have hz2:decide (0 < t.length)=true:=decide_eq_true hpos;have hz3:(0 < t.length)=True:=eq_true hpos;rw[Addr.add_zero']at hx;clear hcc hce hv ge hC hlc hz er;go_wp2;go_ret
  exact⟨_,rfl,HR.out,HB.out⟩
def Qb.l0 :Nat->Int->List Int->List (List Int)->Int->Int->Int->Int->Int->Option (List Int)
 | 0,_,_,_,_,_,_,_,_=>none
 | k+1,x0,x7,x11,x12,x13,x515000,x515001,x515002=>if x13 < x12 then (if 0<=x13 then (if x13 < (x11.length:Int) then ((jk.f k x515000 x515001 x515002).bind λt519=>((j4.f k x0 (zt x11 x13) t519).bind λt522=>(if x7.length < 17592186044416 then (Qb.l0 k x0 (x7++[t522]) x11 x12 (wrap64 (x13+1)) x515000 x515001 x515002) else (none)))) else (none)) else (none)) else ((Q8.f k x0 x7).bind λt526=>(some t526))
def Qb.f (k:Nat) (a0:Int) (l1:List (List Int)) (a2_0:Int) (a2_1:Int) (a2_2:Int):Option (List Int):=Qb.l0 k a0 (([]:List Int)) l1 (l1.length:Int) 0 a2_0 a2_1 a2_2
theorem Qb.Ag :∀ k,(∀ y0 y1 y2 y3 y4 y5 y6 y7,LeO (Qb.l0 k y0 y1 y2 y3 y4 y5 y6 y7) (Qb.l0 (k+1) y0 y1 y2 y3 y4 y5 y6 y7))
 | 0=>λ_ _ _ _ _ _ _ _ r h=>by simp[Qb.l0]at h
 | k+1=>by
  have ih0:=Qb.Ag k
  ·intro y0 y1 y2 y3 y4 y5 y6 y7
   unfold Qb.l0
   repeat' with_reducible first|intro _|apply ih0|apply jk.mono|apply j4.mono|apply Q8.mono|apply Eb|apply Ec|apply Ed|apply Ee
theorem Qb.mono (a0 a1 a2 a3 a4 k):LeO (Qb.f k a0 a1 a2 a3 a4) (Qb.f (k+1) a0 a1 a2 a3 a4):=by
 have ih0:=Qb.Ag k;unfold Qb.f
 repeat' with_reducible first|intro _|apply ih0|apply jk.mono|apply j4.mono|apply Q8.mono|apply Eb|apply Ec|apply Ed|apply Ee
theorem Qb.calls (k:Nat) (a0:Int) (A1:Option Addr) (c1:Nat) (l1:List (List Int)) (a2_0:Int) (a2_1:Int) (a2_2:Int) (r:List Int) (w:World) (hr1:Kd.C KI w A1 l1.length l1) (hc1:l1.length<=c1) (h:Qb.f k a0 l1 a2_0 a2_1 a2_2=some r):
  Calls Tryz.prog 81 #[int i64 a0,.slice A1 l1.length c1,.agg #[int i64 a2_0,int i64 a2_1,int i64 a2_2]] w λe w'=>∃ v0_:Value,e=.returned (v0_)/\Kd.R (Kd.int i64) 3 w' w.heap.size (λ_=>True) v0_ r/\Below w.heap.size w w':=by
 have HR1:=am hr1;clear hr1 hc1;have HB:=Em w;have H:=h;unfold Qb.f at H;clear h;generalize hy515:(([]:List Int))=y515 at H;have Ny515:=am hy515.symm;clear hy515;have H':=am H;clear H;go_enter Tryz.func81,Tryz.ntmps81
 go_wp2_with (first|((with_reducible refine zd (N:=5) rfl ?_);refine xe_ 5 51 #[int i64 a2_0,int i64 a2_1,int i64 a2_2] ?_;intro gb514 hg w4 hbox hb;have BK514:=am (hbox);have GW514:=Ek HB hg;replace HB:=bq HB hb;clear hb hbox hg)|((with_reducible refine zd (N:=10) rfl ?_);refine li 3 ([]:List Int) ?_;intro v516 w5 ho6 hb;rw[<-Ny515.out]at ho6;have HO517:=am (Kd.Ai ho6 (zw (bx_ HB)));replace BK514:=Ej BK514 hb;replace HB:=am (ze (bx_ HB) hb);clear hb ho6))
 go_loopg [7,13] k (λkq v7 v13 w'=>∃ (x7_1:List Int) (x13_1:Int),v13=int i64 x13_1/\qf (Qb.l0 kq a0 x7_1 l1 (l1.length:Int) x13_1 a2_0 a2_1 a2_2=some r)/\qf (kq<=k)/\qf (Kd.R (Kd.int i64) 3 w' w.heap.size (λ_=>True) v7 x7_1)/\qf (w'.heap[gb514]? =some (.cells #[int i64 a2_0,int i64 a2_1,int i64 a2_2] 51 (0,0)))/\qf (Below w.heap.size w w'))
 case atStart=>exact⟨(y515),(0),fr,H',⟨Nat.le_refl _⟩,⟨wR HO517⟩,⟨by (with_reducible repeat (first|refine qw ?_ _|refine qy ?_|refine qx ?_ _));exact BK514.out⟩,⟨bx_ HB⟩⟩
 case round=>
  clear H';try clear c1;try clear p2
  obtain⟨x7_1,x13_1,rfl,HA,HK1,HO_7,BK514,HB⟩:=hrel
  cases gk with
  | zero=>exact absurd HA.out (by simp[Qb.l0])
  | succ k1=>
   have H:=HA.out;clear HA;simp only[Qb.l0]at H;replace H:=Eg H;rcases H with ⟨c7b0,H⟩|⟨c7b0,H⟩
   ·replace H:=Ef H;obtain⟨c8b0,H⟩:=H;replace H:=Ef H;obtain⟨c9b0,H⟩:=H;replace H:=bs H;obtain⟨t519,A10,H⟩:=H
    replace H:=bs H;obtain⟨t522,A11,H⟩:=H;replace H:=ifn H;obtain⟨c12,H⟩:=H;have LMc12:=am c12;clear c12;generalize hy523:(x7_1++[t522]:List Int)=y523 at H;have Ny523:=am hy523.symm;clear hy523;have H':=am H;clear H;have p518:0<=(x13_1:Int):=od;have q518:x13_1 < (l1.length:Int):=od;obtain⟨ad518,A518_0,c518_0,e518,hx518_0,hl518_0,hi518_0⟩:=qat HR1.out x13_1 p518 q518
    cases e518
    replace hx518_0:=wcl HB hx518_0;have HR518_0:=am hi518_0;have HC518_0:=am hl518_0;clear hi518_0 hl518_0;replace p518:=eq_true p518;replace q518:=eq_true q518;have hcz13_0:=En BK514.out;have hcz13_1:=Eo BK514.out;have hcz13_2:=Ep BK514.out;have hfz13_0:=ql BK514.out 0;have hfz13_1:=ql BK514.out 1;have hfz13_2:=ql BK514.out 2
    go_wp2_with (first|((with_reducible refine za (f:=68) rfl ?_);refine gl 21 Tryz.func68 #[.agg #[int i64 a2_0,int i64 a2_1,int i64 a2_2]] ?_;(with_reducible refine(jk.calls k1 a2_0 a2_1 a2_2 t519 _ A10.out).mono ?_);rintro e w14 ⟨v520,rfl,ho0,hb⟩;refine⟨_,rfl,?_⟩;have HO521:=am (Kd.Ai (Kd.AW ho0 (Kd.R_lt (wR HO_7))) (zw (bx_ HB)));replace HO_7:=eR HO_7 (Kd.Am ho0) hb;replace BK514:=Ej BK514 hb;replace HB:=am (ze (bx_ HB) hb);(try clear hb);(try clear ho0);obtain⟨Ao15,co15,eo15⟩:=Kd.Ah HO521.out;subst eo15)|((with_reducible refine za (f:=75) rfl ?_);refine gl 22 Tryz.func75 #[int i64 a0,.slice A518_0 (zt l1 x13_1).length c518_0,.slice Ao15 t519.length co15] ?_;(with_reducible refine(j4.calls k1 a0 _ _ (zt l1 x13_1) _ _ t519 t522 _ ?_ ?_ ?_ ?_ A11.out).mono ?_);exact Kd.Ad (Kd.Ad HR518_0.out HB.out) gs;exact HC518_0.out;exact Kd.Ad (Kd.Ac HO521.out).2.2 gs;exact(Kd.Ac HO521.out).2.1;rintro e w' ⟨rfl,⟨nd,rfl⟩⟩;refine⟨_,rfl,?_⟩)|((with_reducible refine jz (b:=.append) (xs:=#[.tmp 17,.tmp 23]) rfl ?_);at_builtin;refine Kd.Au (Kd.int i64) (w0:=w) w.heap.size rfl (.tmp 17) (.tmp 23) 37 3 (int i64 0) 8 rfl Tryz.underlying37 Ju rfl (by decide) (by omega) u7 x7_1 t522 [int i64 t522] (λk_=>some k_≠(.slice Ao15 t519.length co15:Value).ownBlock) (λ_=>False) rfl rfl ?aP (λ_ hk=>hk.elim) ?aF ?aO ?aB ?aS ?aL ?_;(case aP=>exact rfl);(case aB=>exact(bx_ HB));(case aF=>exact(λk_ hk=>Kd.fresh' (Kd.R_lt (wR HO521)) k_ hk));(case aO=>exact(oR_ HO_7 (λ_ hk=>hk.2)));(case aS=>exact(zw (bx_ HB)));(case aL=>have:=LMc12.out;omega);intro v524 w16 ho hb hg hat;rw[<-Ny523.out]at ho;replace BK514:=am (Z2 (g:=gb514) (o:=.cells #[int i64 a2_0,int i64 a2_1,int i64 a2_2] 51 (0,0)) (pk_ BK514) hg (Kd.R_ne HO_7.out BK514.out (by decide)));replace HO521:=am (Kd.Bn (ok:=(λ_=>True)) (wR HO521) hg hat);replace HB:=am (hb);have HO525:=am (ho);clear HO_7;clear ho hb hg hat))
    go_roundg k1
    case measure=>have:=HK1.out;omega
    case rel=>exact⟨(y523),(wrap64 (x13_1+1)),fr,H',⟨by have:=HK1.out;omega⟩,⟨Kd.Af (Kd.Ae HO525.out (λ_ hk=>trivial)) gs⟩,⟨by (with_reducible repeat (first|refine qw ?_ _|refine qy ?_|refine qx ?_ _));exact BK514.out⟩,⟨bx_ HB⟩⟩
   ·replace H:=bs H;obtain⟨t526,A17,H⟩:=H;obtain rfl:=Option.some.inj H
    obtain⟨Ao18,co18,eo18⟩:=Kd.Ah HO_7.out;subst eo18
    go_wp2_with (first|((with_reducible refine za (f:=86) rfl ?_);refine gl 28 Tryz.func86 #[int i64 a0,.slice Ao18 x7_1.length co18] ?_;(with_reducible refine(Q8.calls k1 a0 _ _ x7_1 t526 _ ?_ ?_ A17.out).mono ?_);exact Kd.Ad (Kd.Ac HO_7.out).2.2 gs;exact(Kd.Ac HO_7.out).2.1;rintro e w19 ⟨v527,rfl,ho0,hb⟩;refine⟨_,rfl,?_⟩;have HO528:=am (Kd.Ai (Kd.AW ho0 (Kd.R_lt (wR HO_7))) (zw (bx_ HB)));replace HO_7:=eR HO_7 (Kd.Am ho0) hb;replace HB:=am (ze (bx_ HB) hb);(try clear hb);(try clear ho0)))
    go_ret
    exact⟨_,fq,Kd.Af (Kd.Ae HO528.out (λ_ hk=>trivial)) gs,bx_ HB⟩
end Go.Proofs.YtmgbpmihbljngaaGreat.PA
