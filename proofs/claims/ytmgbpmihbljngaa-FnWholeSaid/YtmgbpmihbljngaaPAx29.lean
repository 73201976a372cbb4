-- Written by xprint.py, a program of this claim's own (over the kit's print.py)
import Derived.Test.YtmgbpmihbljngaaPAx27
import Derived.Test.YtmgbpmihbljngaaPAx28
namespace Go.Proofs.Ytmgbpmihbljngaa.PA
open Go.RowKit Go.Proofs.YtmgbpmihbljngaaW.PrintWords Go.Proofs.YtmgbpmihbljngaaW.PrintLast Go.Proofs.YtmgbpmihbljngaaW.PrintMore
attribute [local go_sem] Qg Qj Qp Qo j4 j3 Qh Qf
set_option linter.unusedVariables false
set_option linter.unusedSimpArgs false
mutual
def qg.j0 :Nat→Int→List Int→List Int→Bool→Option (Bool)
 | 0,_,_,_,_=>none
 | k+1,x0,x1,x2,x20=>if x20=true then (some false) else (qg.l0 k x0 x1 x2 0)
def qg.l0 :Nat→Int→List Int→List Int→Int→Option (Bool)
 | 0,_,_,_,_=>none
 | k+1,x0,x1,x2,x7=>if x7≤x0 then (qg.l1 k x0 x1 x2 x7 (([]:List Int)) 0) else (some true)
def qg.l1 :Nat→Int→List Int→List Int→Int→List Int→Int→Option (Bool)
 | 0,_,_,_,_,_,_=>none
 | k+1,x0,x1,x2,x7,x8,x9=>if x9 < 4 then (if 0≤(wrap64 (4+x9)) then (if (wrap64 (4+x9)) < (x2.length:Int) then (if x7 < x0 then (if 0≤x9 then (if x9 < (x2.length:Int) then (if x0=0 then (none) else (if x8.length < 17592186044416 then (qg.l1 k x0 x1 x2 x7 (x8++[Int.tmod (wrap64 ((rd x2 x9)+(wrap64 (x7*(rd x2 (wrap64 (4+x9))))))) x0]) (wrap64 (x9+1))) else (none))) else (none)) else (none)) else (if x8.length < 17592186044416 then (qg.l1 k x0 x1 x2 x7 (x8++[rd x2 (wrap64 (4+x9))]) (wrap64 (x9+1))) else (none))) else (none)) else (none)) else ((ql.f k x0 x1 x8).bind fun t772=>(if t772=0 then (qg.l0 k x0 x1 x2 (wrap64 (x7+1))) else (some false)))
end
def qg.f (k:Nat) (a0:Int) (l1:List Int) (l2:List Int):Option (Bool):=(zv.f k a0 l1).bind fun t758=>(if t758=true then ((j5.f k a0 l2).bind fun t759=>(qg.j0 k a0 l1 l2 (!t759))) else (qg.j0 k a0 l1 l2 true))
theorem qg.mono_l :∀ k,(∀ y0 y1 y2 y3,LeO (qg.j0 k y0 y1 y2 y3) (qg.j0 (k+1) y0 y1 y2 y3))∧(∀ y0 y1 y2 y3,LeO (qg.l0 k y0 y1 y2 y3) (qg.l0 (k+1) y0 y1 y2 y3))∧(∀ y0 y1 y2 y3 y4 y5,LeO (qg.l1 k y0 y1 y2 y3 y4 y5) (qg.l1 (k+1) y0 y1 y2 y3 y4 y5))
 | 0=>⟨fun _ _ _ _ r h=>by simp[qg.j0]at h,fun _ _ _ _ r h=>by simp[qg.l0]at h,fun _ _ _ _ _ _ r h=>by simp[qg.l1]at h⟩
 | k+1=>by
  obtain⟨ih0,ih1,ih2⟩:=qg.mono_l k
  refine⟨?_,?_,?_⟩
  ·intro y0 y1 y2 y3
   unfold qg.j0
   repeat' first | (with_reducible first | apply ih0 | apply ih1 | apply ih2 | apply zv.mono | apply j5.mono | apply ql.mono | exact LeO.refl _ | exact LeO.none _ | refine LeO.ite ?_ ?_ | refine LeO.bind ?_ (fun _=>?_)) | (first | apply ih0 | apply ih1 | apply ih2 | apply zv.mono | apply j5.mono | apply ql.mono | exact LeO.none _ | refine LeO.ite ?_ ?_ | refine LeO.bind ?_ (fun _=>?_))
  ·intro y0 y1 y2 y3
   unfold qg.l0
   repeat' first | (with_reducible first | apply ih0 | apply ih1 | apply ih2 | apply zv.mono | apply j5.mono | apply ql.mono | exact LeO.refl _ | exact LeO.none _ | refine LeO.ite ?_ ?_ | refine LeO.bind ?_ (fun _=>?_)) | (first | apply ih0 | apply ih1 | apply ih2 | apply zv.mono | apply j5.mono | apply ql.mono | exact LeO.none _ | refine LeO.ite ?_ ?_ | refine LeO.bind ?_ (fun _=>?_))
  ·intro y0 y1 y2 y3 y4 y5
   unfold qg.l1
   repeat' first | (with_reducible first | apply ih0 | apply ih1 | apply ih2 | apply zv.mono | apply j5.mono | apply ql.mono | exact LeO.refl _ | exact LeO.none _ | refine LeO.ite ?_ ?_ | refine LeO.bind ?_ (fun _=>?_)) | (first | apply ih0 | apply ih1 | apply ih2 | apply zv.mono | apply j5.mono | apply ql.mono | exact LeO.none _ | refine LeO.ite ?_ ?_ | refine LeO.bind ?_ (fun _=>?_))
theorem qg.mono :∀ a0 a1 a2 k,LeO (qg.f k a0 a1 a2) (qg.f (k+1) a0 a1 a2):=by
 intro a0 a1 a2 k
 obtain⟨ih0,ih1,ih2⟩:=qg.mono_l k
 unfold qg.f
 repeat' first | (with_reducible first | apply ih0 | apply ih1 | apply ih2 | apply zv.mono | apply j5.mono | apply ql.mono | exact LeO.refl _ | exact LeO.none _ | refine LeO.ite ?_ ?_ | refine LeO.bind ?_ (fun _=>?_)) | (first | apply ih0 | apply ih1 | apply ih2 | apply zv.mono | apply j5.mono | apply ql.mono | exact LeO.none _ | refine LeO.ite ?_ ?_ | refine LeO.bind ?_ (fun _=>?_))
set_option maxHeartbeats 8000000 in
set_option maxRecDepth 100000 in
theorem qg.calls (k:Nat) (a0:Int) (A1:Option Addr) (c1:Nat) (l1:List Int) (A2:Option Addr) (c2:Nat) (l2:List Int) (r:Bool) (w:World) (hr1:Kd.C (Kd.int .i64) w A1 l1.length l1) (hc1:l1.length≤c1) (hr2:Kd.C (Kd.int .i64) w A2 l2.length l2) (hc2:l2.length≤c2) (h:qg.f k a0 l1 l2=some r):
  Calls Try.prog 46 #[.int .i64 a0,.slice A1 l1.length c1,.slice A2 l2.length c2] w fun e w'=>e=.returned (.bool r)∧Below w.heap.size w w':=by
 have HR1:=am hr1
 have HC1:=am hc1
 clear hr1 hc1
 have HR2:=am hr2
 have HC2:=am hc2
 clear hr2 hc2
 have HB:=am (Below.refl w.heap.size w)
 have H:((zv.f k a0 l1).bind fun t758=>(if t758=true then ((j5.f k a0 l2).bind fun t759=>(qg.j0 k a0 l1 l2 (!t759))) else (qg.j0 k a0 l1 l2 true)))=some r:=h
 clear h
 have HC4:=am H
 clear H
 go_enter Try.func46,Try.ntmps46
 go_upto_region 1 with (fail)
 repeat (go_quiet (fail);go_upto_region 1 with (fail))
 go_cut [20] (fun v20 wc=>∃ (kq:Nat) (x20_3:Bool),v20=.bool x20_3∧qa (qg.j0 kq a0 l1 l2 x20_3=some r)∧qa (kq≤k)∧qa (Below w.heap.size w wc))
 case first=>
  have H:=HC4.out
  clear HC4;replace H:=bs H;obtain⟨t758,A5,H⟩:=H
  by_cases c6:t758=true
  ·subst c6
   rw[if_pos rfl]at H
   replace H:=bs H;obtain⟨t759,A7,H⟩:=H;have H':=am H;clear H
   go_wp2_with (first | (go_at_call 56;(with_reducible refine(zv.calls k a0 _ _ l1 true _ ?_ ?_ A5.out).mono ?_);exact Kd.C_below HR1.out (bw HB);exact HC1.out;rintro e w' ⟨rfl,⟨nd,rfl⟩⟩;(try first | exact⟨rfl,_,World.drewN_drewN _ _ _⟩ | exact⟨rfl,_,Eq.trans (World.drewN_drewN _ _ _) (congrArg (World.drewN _) (Nat.add_assoc _ _ _))⟩)) | (go_at_call 95;(with_reducible refine(j5.calls k a0 _ _ l2 t759 _ ?_ ?_ A7.out).mono ?_);exact Kd.C_below HR2.out (bw HB);exact HC2.out;rintro e w8 ⟨rfl,hb⟩;replace HB:=bq HB hb;(try clear hb)))
   repeat (go_quiet (first | (go_at_call 56;(with_reducible refine(zv.calls k a0 _ _ l1 true _ ?side1 ?side2 A5.out).mono ?_);(case side1=>exact Kd.C_below HR1.out (bw HB));(case side2=>exact HC1.out);rintro e w' ⟨rfl,⟨nd,rfl⟩⟩;(try first | exact⟨rfl,_,World.drewN_drewN _ _ _⟩ | exact⟨rfl,_,Eq.trans (World.drewN_drewN _ _ _) (congrArg (World.drewN _) (Nat.add_assoc _ _ _))⟩)) | (go_at_call 95;(with_reducible refine(j5.calls k a0 _ _ l2 t759 _ ?side1 ?side2 A7.out).mono ?_);(case side1=>exact Kd.C_below HR2.out (bw HB));(case side2=>exact HC2.out);rintro e w8 ⟨rfl,hb⟩;have n0_:=bq HB hb;clear HB;have HB:=n0_;clear n0_;(try clear hb);(try clear hb2);(try clear hk);(try clear hi)));try go_wp2_with (first | (go_at_call 56;(with_reducible refine(zv.calls k a0 _ _ l1 true _ ?side1 ?side2 A5.out).mono ?_);(case side1=>exact Kd.C_below HR1.out (bw HB));(case side2=>exact HC1.out);rintro e w' ⟨rfl,⟨nd,rfl⟩⟩;(try first | exact⟨rfl,_,World.drewN_drewN _ _ _⟩ | exact⟨rfl,_,Eq.trans (World.drewN_drewN _ _ _) (congrArg (World.drewN _) (Nat.add_assoc _ _ _))⟩)) | (go_at_call 95;(with_reducible refine(j5.calls k a0 _ _ l2 t759 _ ?side1 ?side2 A7.out).mono ?_);(case side1=>exact Kd.C_below HR2.out (bw HB));(case side2=>exact HC2.out);rintro e w8 ⟨rfl,hb⟩;have n0_:=bq HB hb;clear HB;have HB:=n0_;clear n0_;(try clear hb);(try clear hb2);(try clear hk);(try clear hi))))
   go_meet
   case rel=>exact⟨_,(!t759),fr,H',⟨by first | omega | exact Nat.le_refl _⟩,⟨bw HB⟩⟩
  ·replace c6:=Bool.eq_false_iff.mpr c6
   subst c6
   rw[if_neg (show ¬ (false=true) by decide)]at H
   have H':=am H;clear H
   go_wp2_with (first | (go_at_call 56;(with_reducible refine(zv.calls k a0 _ _ l1 false _ ?_ ?_ A5.out).mono ?_);exact Kd.C_below HR1.out (bw HB);exact HC1.out;rintro e w' ⟨rfl,⟨nd,rfl⟩⟩;(try first | exact⟨rfl,_,World.drewN_drewN _ _ _⟩ | exact⟨rfl,_,Eq.trans (World.drewN_drewN _ _ _) (congrArg (World.drewN _) (Nat.add_assoc _ _ _))⟩)))
   repeat (go_quiet (first | (go_at_call 56;(with_reducible refine(zv.calls k a0 _ _ l1 false _ ?side1 ?side2 A5.out).mono ?_);(case side1=>exact Kd.C_below HR1.out (bw HB));(case side2=>exact HC1.out);rintro e w' ⟨rfl,⟨nd,rfl⟩⟩;(try first | exact⟨rfl,_,World.drewN_drewN _ _ _⟩ | exact⟨rfl,_,Eq.trans (World.drewN_drewN _ _ _) (congrArg (World.drewN _) (Nat.add_assoc _ _ _))⟩)));try go_wp2_with (first | (go_at_call 56;(with_reducible refine(zv.calls k a0 _ _ l1 false _ ?side1 ?side2 A5.out).mono ?_);(case side1=>exact Kd.C_below HR1.out (bw HB));(case side2=>exact HC1.out);rintro e w' ⟨rfl,⟨nd,rfl⟩⟩;(try first | exact⟨rfl,_,World.drewN_drewN _ _ _⟩ | exact⟨rfl,_,Eq.trans (World.drewN_drewN _ _ _) (congrArg (World.drewN _) (Nat.add_assoc _ _ _))⟩))))
   go_meet
   case rel=>exact⟨_,(true),fr,H',⟨by first | omega | exact Nat.le_refl _⟩,⟨bw HB⟩⟩
 case rest =>
  clear HC4;try clear c1;try clear c2;try clear p2;try clear c4;try clear c6
  obtain⟨kq,x20_3,rfl,HA,HJ3,HB⟩:=hcut
  cases kq with
  | zero=>exact absurd HA.out (by simp[qg.j0])
  | succ kj3=>
   have H:=HA.out;clear HA
   simp only[qg.j0]at H
   by_cases c9:x20_3=true
   ·subst c9
    rw[if_pos rfl]at H
    obtain rfl:=Option.some.inj H;go_wp2
    repeat (go_quiet (fail);try go_wp2)
    go_ret
    exact⟨fq,bw HB⟩
   ·replace c9:=Bool.eq_false_iff.mpr c9
    subst c9
    rw[if_neg (show ¬ (false=true) by decide)]at H
    have H':=am H;clear H;go_wp2
    repeat (go_quiet (fail);try go_wp2)
    go_loopg [7] kj3 (fun kq v7 w'=>∃ (x7_2:Int),v7=.int .i64 x7_2∧qa (qg.l0 kq a0 l1 l2 x7_2=some r)∧qa (kq≤kj3)∧qa (Below w.heap.size w w'))
    case atStart=>exact⟨(0),fr,H',⟨Nat.le_refl _⟩,⟨bw HB⟩⟩
    case round=>
     clear H';try clear c1;try clear c2;try clear p2;try clear c4;try clear c6;try clear c9;try clear p2
     obtain⟨x7_2,rfl,HA,HK2,HB⟩:=hrel
     cases gk with
     | zero=>exact absurd HA.out (by simp[qg.l0])
     | succ k2=>
      have H:=HA.out;clear HA
      simp only[qg.l0]at H
      by_cases c10:x7_2≤a0
      ·rw [if_pos c10] at H
       have c10b0:=decide_eq_true c10;clear c10
       generalize hy760:(([]:List Int))=y760 at H
       have Ny760:=am hy760.symm;clear hy760;have H':=am H;clear H
       go_wp2_with (first | ((with_reducible refine q7 (N:=26) rfl ?_);refine li 3 ([]:List Int) ?_;intro v761 w11 ho12 hb;(first | rw[← Ny760.out]at ho12 | (simp only[Int.reduceToNat]at ho12;rw[← Ny760.out]at ho12));have HO762:=am (Kd.R_lower ho12 (bz HB));replace HB:=bq HB hb;clear hb ho12))
       repeat (go_quiet (first | ((with_reducible refine q7 (N:=26) rfl ?_);refine Kd.R_lit (Kd.int .i64) _ 3 ?hg (N:=26) ?hd (xs:=([]:List Int)) (inner:=[]) (ok:=fun _=>True) (okp:=fun _=>True) ?hr ?hp (fun _ hk=>hk) trivial (Below.refl _ _) (Nat.le_refl _) (by simp) ?_;(case hd=>rfl);(case hg=>rfl);(case hr=>first | (go_simp;done) | (go_simp;rfl));(case hp=>exact(Reps.none _ _));intro v761 w11 ho12 hb hg_ hnew_;clear hg_ hnew_;(first | rw[← Ny760.out]at ho12 | (simp only[Int.reduceToNat]at ho12;rw[← Ny760.out]at ho12));have n0_:=am (Kd.R_lower ho12 (bz HB));have n1_:=bq HB hb;clear HB;have HO762:=n0_;have HB:=n1_;clear n0_ n1_;clear hb ho12));try go_wp2_with (first | ((with_reducible refine q7 (N:=26) rfl ?_);refine Kd.R_lit (Kd.int .i64) _ 3 ?hg (N:=26) ?hd (xs:=([]:List Int)) (inner:=[]) (ok:=fun _=>True) (okp:=fun _=>True) ?hr ?hp (fun _ hk=>hk) trivial (Below.refl _ _) (Nat.le_refl _) (by simp) ?_;(case hd=>rfl);(case hg=>rfl);(case hr=>first | (go_simp;done) | (go_simp;rfl));(case hp=>exact(Reps.none _ _));intro v761 w11 ho12 hb hg_ hnew_;clear hg_ hnew_;(first | rw[← Ny760.out]at ho12 | (simp only[Int.reduceToNat]at ho12;rw[← Ny760.out]at ho12));have n0_:=am (Kd.R_lower ho12 (bz HB));have n1_:=bq HB hb;clear HB;have HO762:=n0_;have HB:=n1_;clear n0_ n1_;clear hb ho12)))
       go_loopg [8,9] k2 (fun kq v8 v9 w'=>∃ (x8_3:List Int) (x9_3:Int),v9=.int .i64 x9_3∧qa (qg.l1 kq a0 l1 l2 x7_2 x8_3 x9_3=some r)∧qa (kq≤k2)∧qa (Kd.R (Kd.int .i64) 3 w' w.heap.size (fun _=>True) v8 x8_3)∧qa (Below w.heap.size w w'))
       case atStart=>exact⟨(y760),(0),fr,H',⟨Nat.le_refl _⟩,⟨wR HO762⟩,⟨bw HB⟩⟩
       case round=>
        clear H';try clear c1;try clear c2;try clear p2;try clear c4;try clear c6;try clear c9;try clear c10;try clear c10b0;try clear p2
        obtain⟨x8_3,x9_3,rfl,HA,HK3,HO_8,HB⟩:=hrel
        cases gk with
        | zero=>exact absurd HA.out (by simp[qg.l1])
        | succ k3=>
         have H:=HA.out;clear HA
         simp only[qg.l1]at H
         by_cases c13:x9_3 < 4
         ·rw[if_pos c13]at H
          have c13b0:=decide_eq_true c13;clear c13
          obtain⟨ji14,hji14⟩:∃ j_:Int,(wrap64 (4+x9_3))=j_:=⟨_,rfl⟩
          (first | rw[hji14]at H | simp only[hji14]at H)
          have hji14w:(IntKind.i64.wrap (4+x9_3))=ji14:=(Z7 _).trans hji14
          replace H:=ifn H;obtain⟨c15,H⟩:=H;have c15b0:=decide_eq_true c15;clear c15;replace H:=ifn H;obtain⟨c16,H⟩:=H;have c16b0:=decide_eq_true c16;clear c16
          by_cases c17:x7_2 < a0
          ·rw[if_pos c17]at H
           have c17b0:=decide_eq_true c17;clear c17;replace H:=ifn H;obtain⟨c18,H⟩:=H;have c18b0:=decide_eq_true c18;clear c18;replace H:=ifn H;obtain⟨c19,H⟩:=H;have c19b0:=decide_eq_true c19;clear c19;replace H:=ifm H;obtain⟨c20,H⟩:=H
           have c20b0:=beq_eq_false_iff_ne.mpr c20;have c20b1:=bne_iff_ne.mpr c20;replace H:=ifn H;obtain⟨c21,H⟩:=H;have LMc21:=am c21;clear c21
           generalize hy766:(x8_3++[Int.tmod (wrap64 ((rd l2 x9_3)+(wrap64 (x7_2*(rd l2 (ji14)))))) a0]:List Int)=y766 at H
           have Ny766:=am hy766.symm;clear hy766;have H':=am H;clear H
           have p763:0≤((ji14):Int):=od
           have q763:(ji14) < (l2.length:Int):=od
           obtain⟨ad763,e763,hx763_0⟩:=Kd.at_int HR2.out (ji14) p763 q763
           cases e763
           replace hx763_0:=wcl HB hx763_0
           replace p763:=eq_true p763;replace q763:=eq_true q763
           have p764:0≤(x9_3:Int):=od
           have q764:x9_3 < (l2.length:Int):=od
           obtain⟨ad764,e764,hx764_0⟩:=Kd.at_int HR2.out x9_3 p764 q764
           obtain rfl:ad763=ad764:=(by injection e764)
           replace hx764_0:=wcl HB hx764_0
           replace p764:=eq_true p764;replace q764:=eq_true q764
           have p765:0≤((ji14):Int):=od
           have q765:(ji14) < (l2.length:Int):=od
           obtain⟨ad765,e765,hx765_0⟩:=Kd.at_int HR2.out (ji14) p765 q765
           obtain rfl:ad763=ad765:=(by injection e765)
           replace hx765_0:=wcl HB hx765_0
           replace p765:=eq_true p765;replace q765:=eq_true q765
           go_wp2_with (first | ((with_reducible refine ji (b:=.append) (xs:=#[.tmp 53,.tmp 55]) rfl ?_);at_builtin;refine Kd.R_append (Kd.int .i64) (w0:=w) w.heap.size rfl (.tmp 53) (.tmp 55) 23 3 (.int .i64 0) 8 rfl Try.underlying23 Q1 rfl (by decide) (by omega) u8 x8_3 (Int.tmod (wrap64 ((rd l2 x9_3)+(wrap64 (x7_2*(rd l2 (ji14)))))) a0) [.int .i64 (Int.tmod (wrap64 ((rd l2 x9_3)+(wrap64 (x7_2*(rd l2 (ji14)))))) a0)] (fun _=>True) (fun _=>False) rfl rfl ?aP (fun _ hk=>hk.elim) ?aF ?aO ?aB ?aS ?aL ?_;(case aP=>exact rfl);(case aB=>exact(bw HB));(case aF=>exact(fun _ _=>trivial));(case aO=>exact(wR HO_8));(case aS=>exact(bz HB));(case aL=>have:=LMc21.out;omega);intro v767 w22 ho hb hg hat;rw[← Ny766.out]at ho;replace HB:=am (hb);have HO768:=am (ho);clear HO_8;clear ho hb hg hat))
           repeat (go_quiet (first | ((with_reducible refine ji (b:=.append) (xs:=#[.tmp 53,.tmp 55]) rfl ?_);at_builtin;refine Kd.R_append (Kd.int .i64) (w0:=w) w.heap.size rfl (.tmp 53) (.tmp 55) 23 3 (.int .i64 0) 8 rfl Try.underlying23 Q1 rfl (by decide) (by omega) u8 x8_3 (Int.tmod (wrap64 ((rd l2 x9_3)+(wrap64 (x7_2*(rd l2 (ji14)))))) a0) [.int .i64 (Int.tmod (wrap64 ((rd l2 x9_3)+(wrap64 (x7_2*(rd l2 (ji14)))))) a0)] (fun _=>True) (fun _=>False) rfl rfl ?aP (fun _ hk=>hk.elim) ?aF ?aO ?aB ?aS ?aL ?_;(case aP=>exact rfl);(case aB=>exact(bw HB));(case aF=>exact(fun _ _=>trivial));(case aO=>exact(wR HO_8));(case aS=>exact(bz HB));(case aL=>have:=LMc21.out;omega);intro v767 w22 ho hb hg hat;rw[← Ny766.out]at ho;have n0_:=am (hb);have n1_:=am (ho);clear HB;clear HO_8;have HB:=n0_;have HO768:=n1_;clear n0_ n1_;clear ho hb hg hat));try go_wp2_with (first | ((with_reducible refine ji (b:=.append) (xs:=#[.tmp 53,.tmp 55]) rfl ?_);at_builtin;refine Kd.R_append (Kd.int .i64) (w0:=w) w.heap.size rfl (.tmp 53) (.tmp 55) 23 3 (.int .i64 0) 8 rfl Try.underlying23 Q1 rfl (by decide) (by omega) u8 x8_3 (Int.tmod (wrap64 ((rd l2 x9_3)+(wrap64 (x7_2*(rd l2 (ji14)))))) a0) [.int .i64 (Int.tmod (wrap64 ((rd l2 x9_3)+(wrap64 (x7_2*(rd l2 (ji14)))))) a0)] (fun _=>True) (fun _=>False) rfl rfl ?aP (fun _ hk=>hk.elim) ?aF ?aO ?aB ?aS ?aL ?_;(case aP=>exact rfl);(case aB=>exact(bw HB));(case aF=>exact(fun _ _=>trivial));(case aO=>exact(wR HO_8));(case aS=>exact(bz HB));(case aL=>have:=LMc21.out;omega);intro v767 w22 ho hb hg hat;rw[← Ny766.out]at ho;have n0_:=am (hb);have n1_:=am (ho);clear HB;clear HO_8;have HB:=n0_;have HO768:=n1_;clear n0_ n1_;clear ho hb hg hat)))
           go_roundg k3
           case measure=>have:=HJ3.out;have:=HK2.out;have:=HK3.out;omega
           case rel=>exact⟨(y766),(wrap64 (x9_3+1)),fr,H',⟨by have:=HJ3.out;have:=HK2.out;have:=HK3.out;omega⟩,⟨wR HO768⟩,⟨bw HB⟩⟩
          ·rw[if_neg c17]at H
           have c17b0:=decide_eq_false c17;clear c17;replace H:=ifn H;obtain⟨c23,H⟩:=H;have LMc23:=am c23;clear c23
           generalize hy769:(x8_3++[rd l2 (ji14)]:List Int)=y769 at H
           have Ny769:=am hy769.symm;clear hy769;have H':=am H;clear H
           have p763:0≤((ji14):Int):=od
           have q763:(ji14) < (l2.length:Int):=od
           obtain⟨ad763,e763,hx763_0⟩:=Kd.at_int HR2.out (ji14) p763 q763
           cases e763
           replace hx763_0:=wcl HB hx763_0
           replace p763:=eq_true p763;replace q763:=eq_true q763
           go_wp2_with (first | ((with_reducible refine ji (b:=.append) (xs:=#[.tmp 53,.tmp 55]) rfl ?_);at_builtin;refine Kd.R_append (Kd.int .i64) (w0:=w) w.heap.size rfl (.tmp 53) (.tmp 55) 23 3 (.int .i64 0) 8 rfl Try.underlying23 Q1 rfl (by decide) (by omega) u8 x8_3 (rd l2 (ji14)) [.int .i64 (rd l2 (ji14))] (fun _=>True) (fun _=>False) rfl rfl ?aP (fun _ hk=>hk.elim) ?aF ?aO ?aB ?aS ?aL ?_;(case aP=>exact rfl);(case aB=>exact(bw HB));(case aF=>exact(fun _ _=>trivial));(case aO=>exact(wR HO_8));(case aS=>exact(bz HB));(case aL=>have:=LMc23.out;omega);intro v770 w24 ho hb hg hat;rw[← Ny769.out]at ho;replace HB:=am (hb);have HO771:=am (ho);clear HO_8;clear ho hb hg hat))
           repeat (go_quiet (first | ((with_reducible refine ji (b:=.append) (xs:=#[.tmp 53,.tmp 55]) rfl ?_);at_builtin;refine Kd.R_append (Kd.int .i64) (w0:=w) w.heap.size rfl (.tmp 53) (.tmp 55) 23 3 (.int .i64 0) 8 rfl Try.underlying23 Q1 rfl (by decide) (by omega) u8 x8_3 (rd l2 (ji14)) [.int .i64 (rd l2 (ji14))] (fun _=>True) (fun _=>False) rfl rfl ?aP (fun _ hk=>hk.elim) ?aF ?aO ?aB ?aS ?aL ?_;(case aP=>exact rfl);(case aB=>exact(bw HB));(case aF=>exact(fun _ _=>trivial));(case aO=>exact(wR HO_8));(case aS=>exact(bz HB));(case aL=>have:=LMc23.out;omega);intro v770 w24 ho hb hg hat;rw[← Ny769.out]at ho;have n0_:=am (hb);have n1_:=am (ho);clear HB;clear HO_8;have HB:=n0_;have HO771:=n1_;clear n0_ n1_;clear ho hb hg hat));try go_wp2_with (first | ((with_reducible refine ji (b:=.append) (xs:=#[.tmp 53,.tmp 55]) rfl ?_);at_builtin;refine Kd.R_append (Kd.int .i64) (w0:=w) w.heap.size rfl (.tmp 53) (.tmp 55) 23 3 (.int .i64 0) 8 rfl Try.underlying23 Q1 rfl (by decide) (by omega) u8 x8_3 (rd l2 (ji14)) [.int .i64 (rd l2 (ji14))] (fun _=>True) (fun _=>False) rfl rfl ?aP (fun _ hk=>hk.elim) ?aF ?aO ?aB ?aS ?aL ?_;(case aP=>exact rfl);(case aB=>exact(bw HB));(case aF=>exact(fun _ _=>trivial));(case aO=>exact(wR HO_8));(case aS=>exact(bz HB));(case aL=>have:=LMc23.out;omega);intro v770 w24 ho hb hg hat;rw[← Ny769.out]at ho;have n0_:=am (hb);have n1_:=am (ho);clear HB;clear HO_8;have HB:=n0_;have HO771:=n1_;clear n0_ n1_;clear ho hb hg hat)))
           go_roundg k3
           case measure=>have:=HJ3.out;have:=HK2.out;have:=HK3.out;omega
           case rel=>exact⟨(y769),(wrap64 (x9_3+1)),fr,H',⟨by have:=HJ3.out;have:=HK2.out;have:=HK3.out;omega⟩,⟨wR HO771⟩,⟨bw HB⟩⟩
         ·rw[if_neg c13]at H
          have c13b0:=decide_eq_false c13;clear c13;replace H:=bs H;obtain⟨t772,A25,H⟩:=H
          by_cases c26:t772=0
          ·rw[if_pos c26]at H
           have c26b0:=beq_iff_eq.mpr c26;have c26b1:=bne_eq_false_iff_eq.mpr c26;clear c26;have H':=am H;clear H
           obtain⟨Ao27,co27,eo27⟩:=Kd.R_slice HO_8.out
           subst eo27
           go_wp2_with (first | (go_at_call 57;(with_reducible refine(ql.calls k3 a0 _ _ l1 _ _ x8_3 t772 _ ?_ ?_ ?_ ?_ A25.out).mono ?_);exact Kd.C_below HR1.out (bw HB);exact HC1.out;exact Kd.C_below (Kd.R_reads' HO_8.out).2.2 gs;exact(Kd.R_reads' HO_8.out).2.1;rintro e w' ⟨rfl,⟨nd,rfl⟩⟩;(try first | exact⟨rfl,_,World.drewN_drewN _ _ _⟩ | exact⟨rfl,_,Eq.trans (World.drewN_drewN _ _ _) (congrArg (World.drewN _) (Nat.add_assoc _ _ _))⟩)))
           repeat (go_quiet (first | (go_at_call 57;(with_reducible refine(ql.calls k3 a0 _ _ l1 _ _ x8_3 t772 _ ?side1 ?side2 ?side3 ?side4 A25.out).mono ?_);(case side1=>exact Kd.C_below HR1.out (bw HB));(case side2=>exact HC1.out);(case side3=>exact Kd.C_below (Kd.R_reads' HO_8.out).2.2 gs);(case side4=>exact(Kd.R_reads' HO_8.out).2.1);rintro e w' ⟨rfl,⟨nd,rfl⟩⟩;(try first | exact⟨rfl,_,World.drewN_drewN _ _ _⟩ | exact⟨rfl,_,Eq.trans (World.drewN_drewN _ _ _) (congrArg (World.drewN _) (Nat.add_assoc _ _ _))⟩)));try go_wp2_with (first | (go_at_call 57;(with_reducible refine(ql.calls k3 a0 _ _ l1 _ _ x8_3 t772 _ ?side1 ?side2 ?side3 ?side4 A25.out).mono ?_);(case side1=>exact Kd.C_below HR1.out (bw HB));(case side2=>exact HC1.out);(case side3=>exact Kd.C_below (Kd.R_reads' HO_8.out).2.2 gs);(case side4=>exact(Kd.R_reads' HO_8.out).2.1);rintro e w' ⟨rfl,⟨nd,rfl⟩⟩;(try first | exact⟨rfl,_,World.drewN_drewN _ _ _⟩ | exact⟨rfl,_,Eq.trans (World.drewN_drewN _ _ _) (congrArg (World.drewN _) (Nat.add_assoc _ _ _))⟩))))
           go_roundg k3
           case measure=>have:=HJ3.out;have:=HK2.out;have:=HK3.out;omega
           case rel=>exact⟨(wrap64 (x7_2+1)),fr,H',⟨by have:=HJ3.out;have:=HK2.out;have:=HK3.out;omega⟩,⟨bw HB⟩⟩
          ·rw[if_neg c26]at H
           have c26b0:=beq_eq_false_iff_ne.mpr c26;have c26b1:=bne_iff_ne.mpr c26;obtain rfl:=Option.some.inj H
           obtain⟨Ao28,co28,eo28⟩:=Kd.R_slice HO_8.out
           subst eo28
           go_wp2_with (first | (go_at_call 57;(with_reducible refine(ql.calls k3 a0 _ _ l1 _ _ x8_3 t772 _ ?_ ?_ ?_ ?_ A25.out).mono ?_);exact Kd.C_below HR1.out (bw HB);exact HC1.out;exact Kd.C_below (Kd.R_reads' HO_8.out).2.2 gs;exact(Kd.R_reads' HO_8.out).2.1;rintro e w' ⟨rfl,⟨nd,rfl⟩⟩;(try first | exact⟨rfl,_,World.drewN_drewN _ _ _⟩ | exact⟨rfl,_,Eq.trans (World.drewN_drewN _ _ _) (congrArg (World.drewN _) (Nat.add_assoc _ _ _))⟩)))
           repeat (go_quiet (first | (go_at_call 57;(with_reducible refine(ql.calls k3 a0 _ _ l1 _ _ x8_3 t772 _ ?side1 ?side2 ?side3 ?side4 A25.out).mono ?_);(case side1=>exact Kd.C_below HR1.out (bw HB));(case side2=>exact HC1.out);(case side3=>exact Kd.C_below (Kd.R_reads' HO_8.out).2.2 gs);(case side4=>exact(Kd.R_reads' HO_8.out).2.1);rintro e w' ⟨rfl,⟨nd,rfl⟩⟩;(try first | exact⟨rfl,_,World.drewN_drewN _ _ _⟩ | exact⟨rfl,_,Eq.trans (World.drewN_drewN _ _ _) (congrArg (World.drewN _) (Nat.add_assoc _ _ _))⟩)));try go_wp2_with (first | (go_at_call 57;(with_reducible refine(ql.calls k3 a0 _ _ l1 _ _ x8_3 t772 _ ?side1 ?side2 ?side3 ?side4 A25.out).mono ?_);(case side1=>exact Kd.C_below HR1.out (bw HB));(case side2=>exact HC1.out);(case side3=>exact Kd.C_below (Kd.R_reads' HO_8.out).2.2 gs);(case side4=>exact(Kd.R_reads' HO_8.out).2.1);rintro e w' ⟨rfl,⟨nd,rfl⟩⟩;(try first | exact⟨rfl,_,World.drewN_drewN _ _ _⟩ | exact⟨rfl,_,Eq.trans (World.drewN_drewN _ _ _) (congrArg (World.drewN _) (Nat.add_assoc _ _ _))⟩))))
           go_ret
           exact⟨fq,bw HB⟩
      ·rw[if_neg c10]at H
       have c10b0:=decide_eq_false c10;clear c10;obtain rfl:=Option.some.inj H;go_wp2
       repeat (go_quiet (fail);try go_wp2)
       go_ret
       exact⟨fq,bw HB⟩
end Go.Proofs.Ytmgbpmihbljngaa.PA
