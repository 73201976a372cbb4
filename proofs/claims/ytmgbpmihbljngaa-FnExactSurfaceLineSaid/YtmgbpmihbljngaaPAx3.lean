-- Written by xprint.py, a program of this claim's own (over the kit's print.py)
import Derived.Test.YtmgbpmihbljngaaPAx2
import Derived.Deep.WholeRow
namespace Go.Proofs.Ytmgbpmihbljngaa.PA
set_option maxHeartbeats 8000000
set_option maxRecDepth 100000
open Go.RowKit Go.Proofs.YtmgbpmihbljngaaW.PrintWords Go.Proofs.YtmgbpmihbljngaaW.PrintLast Go.Proofs.YtmgbpmihbljngaaW.PrintMore
attribute [local go_sem] Qs Qr Qx Qw Qf Qe Qq Qp
set_option linter.unusedVariables false
set_option linter.unusedSimpArgs false
def zl.l0 :Nat→List Int→Int→Option (Bool)
 | 0,_,_=>none
 | k+1,x0,x3=>if x3 < (x0.length:Int) then (if 0≤x3 then (if (rd x0 x3)=0 then (zl.l0 k x0 (wrap64 (x3+1))) else (some false)) else (none)) else (some true)
def zl.f (k:Nat) (l0:List Int):Option (Bool):=zl.l0 k l0 0
theorem zl.mono_l :∀ k,(∀ y0 y1,LeO (zl.l0 k y0 y1) (zl.l0 (k+1) y0 y1))
 | 0=>fun _ _ r h=>by simp[zl.l0]at h
 | k+1=>by
  have ih0:=zl.mono_l k
  ·intro y0 y1
   unfold zl.l0
   repeat' first | (with_reducible first | apply ih0 | exact LeO.refl _ | exact LeO.none _ | refine LeO.ite ?_ ?_ | refine LeO.bind ?_ (fun _=>?_)) | (first | apply ih0 | exact LeO.none _ | refine LeO.ite ?_ ?_ | refine LeO.bind ?_ (fun _=>?_))
theorem zl.mono :∀ a0 k,LeO (zl.f k a0) (zl.f (k+1) a0):=by
 intro a0 k
 have ih0:=zl.mono_l k
 unfold zl.f
 repeat' first | (with_reducible first | apply ih0 | exact LeO.refl _ | exact LeO.none _ | refine LeO.ite ?_ ?_ | refine LeO.bind ?_ (fun _=>?_)) | (first | apply ih0 | exact LeO.none _ | refine LeO.ite ?_ ?_ | refine LeO.bind ?_ (fun _=>?_))
theorem zl.calls (k:Nat) (A0:Option Addr) (c0:Nat) (l0:List Int) (r:Bool) (w:World) (hr0:Kd.C (Kd.int .i64) w A0 l0.length l0) (hc0:l0.length≤c0) (h:zl.f k l0=some r):
  Calls Try.prog 79 #[.slice A0 l0.length c0] w fun e w'=>e=.returned (.bool r)∧Drawn0 w w':=by
 have HR0:=am hr0
 have HC0:=am hc0
 clear hr0 hc0
 have H:(zl.l0 k l0 0)=some r:=h
 clear h;have H':=am H;clear H
 go_enter Try.func79,Try.ntmps79
 go_wp2
 go_loopg [3] k (fun kq v3 w'=>∃ (x3_1:Int),v3=.int .i64 x3_1∧qf (zl.l0 kq l0 x3_1=some r)∧qf (kq≤k)∧Drawn0 w w')
 case atStart=>exact⟨(0),fr,H',⟨Nat.le_refl _⟩,df⟩
 case round=>
  clear H'
  obtain⟨x3_1,rfl,HA,HK1,⟨m1,rfl⟩⟩:=hrel
  cases gk with
  | zero=>exact absurd HA.out (by simp[zl.l0])
  | succ k1=>
   have H:=HA.out;clear HA
   simp only[zl.l0]at H
   by_cases c2:x3_1 < (l0.length:Int)
   ·rw[if_pos c2]at H
    have c2b0:=decide_eq_true c2;clear c2;replace H:=ifn H;obtain⟨c3,H⟩:=H;have c3b0:=decide_eq_true c3;clear c3
    by_cases c4:(rd l0 x3_1)=0
    ·rw[if_pos c4]at H
     have c4b0:=beq_iff_eq.mpr c4;have c4b1:=bne_eq_false_iff_eq.mpr c4;clear c4;have H':=am H;clear H
     have p125:0≤(x3_1:Int):=od
     have q125:x3_1 < (l0.length:Int):=od
     obtain⟨ad125,e125,hx125_0⟩:=Kd.at_int HR0.out x3_1 p125 q125
     cases e125;replace p125:=eq_true p125;replace q125:=eq_true q125;go_wp2
     go_roundg k1
     case measure=>have:=HK1.out;omega
     case rel=>exact⟨(wrap64 (x3_1+1)),fr,H',⟨by have:=HK1.out;omega⟩,df⟩
    ·rw[if_neg c4]at H
     have c4b0:=beq_eq_false_iff_ne.mpr c4;have c4b1:=bne_iff_ne.mpr c4;obtain rfl:=Option.some.inj H
     have p125:0≤(x3_1:Int):=od
     have q125:x3_1 < (l0.length:Int):=od
     obtain⟨ad125,e125,hx125_0⟩:=Kd.at_int HR0.out x3_1 p125 q125
     cases e125;replace p125:=eq_true p125;replace q125:=eq_true q125;go_wp2;go_ret
     exact⟨fr,df⟩
   ·rw[if_neg c2]at H
    have c2b0:=decide_eq_false c2;clear c2;obtain rfl:=Option.some.inj H;go_wp2;go_ret
    exact⟨fr,df⟩
def z7.l0 :Nat→Int→Int→Int→Option (Int)
 | 0,_,_,_=>none
 | k+1,x0,x1,x5=>if x5 < x0 then (if x0=0 then (none) else (if (Int.tmod (wrap64 (x5*x1)) x0)=1 then (some x5) else (z7.l0 k x0 x1 (wrap64 (x5+1))))) else (some 0)
def z7.f (k:Nat) (a0:Int) (a1:Int):Option (Int):=z7.l0 k a0 a1 1
theorem z7.mono_l :∀ k,(∀ y0 y1 y2,LeO (z7.l0 k y0 y1 y2) (z7.l0 (k+1) y0 y1 y2))
 | 0=>fun _ _ _ r h=>by simp[z7.l0]at h
 | k+1=>by
  have ih0:=z7.mono_l k
  ·intro y0 y1 y2
   unfold z7.l0
   repeat' first | (with_reducible first | apply ih0 | exact LeO.refl _ | exact LeO.none _ | refine LeO.ite ?_ ?_ | refine LeO.bind ?_ (fun _=>?_)) | (first | apply ih0 | exact LeO.none _ | refine LeO.ite ?_ ?_ | refine LeO.bind ?_ (fun _=>?_))
theorem z7.mono :∀ a0 a1 k,LeO (z7.f k a0 a1) (z7.f (k+1) a0 a1):=by
 intro a0 a1 k
 have ih0:=z7.mono_l k
 unfold z7.f
 repeat' first | (with_reducible first | apply ih0 | exact LeO.refl _ | exact LeO.none _ | refine LeO.ite ?_ ?_ | refine LeO.bind ?_ (fun _=>?_)) | (first | apply ih0 | exact LeO.none _ | refine LeO.ite ?_ ?_ | refine LeO.bind ?_ (fun _=>?_))
theorem z7.calls (k:Nat) (a0:Int) (a1:Int) (r:Int) (w:World) (h:z7.f k a0 a1=some r):
  Calls Try.prog 125 #[.int .i64 a0,.int .i64 a1] w fun e w'=>e=.returned (.int .i64 r)∧Drawn0 w w':=by
 have H:(z7.l0 k a0 a1 1)=some r:=h
 clear h;have H':=am H;clear H
 go_enter Try.func125,Try.ntmps125
 go_wp2
 go_loopg [5] k (fun kq v5 w'=>∃ (x5_1:Int),v5=.int .i64 x5_1∧qf (z7.l0 kq a0 a1 x5_1=some r)∧qf (kq≤k)∧Drawn0 w w')
 case atStart=>exact⟨(1),fr,H',⟨Nat.le_refl _⟩,df⟩
 case round=>
  clear H';try clear c1;try clear p2
  obtain⟨x5_1,rfl,HA,HK1,⟨m1,rfl⟩⟩:=hrel
  cases gk with
  | zero=>exact absurd HA.out (by simp[z7.l0])
  | succ k1=>
   have H:=HA.out;clear HA
   simp only[z7.l0]at H
   by_cases c3:x5_1 < a0
   ·rw[if_pos c3]at H
    have c3b0:=decide_eq_true c3;clear c3;replace H:=ifm H;obtain⟨c4,H⟩:=H;have c4b0:=beq_eq_false_iff_ne.mpr c4;have c4b1:=bne_iff_ne.mpr c4
    by_cases c5:(Int.tmod (wrap64 (x5_1*a1)) a0)=1
    ·rw[if_pos c5]at H
     have c5b0:=beq_iff_eq.mpr c5;have c5b1:=bne_eq_false_iff_eq.mpr c5;clear c5;obtain rfl:=Option.some.inj H;go_wp2;go_ret
     exact⟨fr,df⟩
    ·rw[if_neg c5]at H
     have c5b0:=beq_eq_false_iff_ne.mpr c5;have c5b1:=bne_iff_ne.mpr c5;have H':=am H;clear H;go_wp2
     go_roundg k1
     case measure=>have:=HK1.out;omega
     case rel=>exact⟨(wrap64 (x5_1+1)),fr,H',⟨by have:=HK1.out;omega⟩,df⟩
   ·rw[if_neg c3]at H
    have c3b0:=decide_eq_false c3;clear c3;obtain rfl:=Option.some.inj H;go_wp2;go_ret
    exact⟨fr,df⟩
def zf.l0 :Nat→Int→List Int→List Int→Int→Int→Option (List Int)
 | 0,_,_,_,_,_=>none
 | k+1,x0,x1,x5,x6,x7=>if x7 < (x1.length:Int) then (if x6=0 then (if 0≤x7 then ((z7.f k x0 (rd x1 x7)).bind fun t130=>(if x0=0 then (none) else (if x5.length < 17592186044416 then (zf.l0 k x0 x1 (x5++[Int.tmod (wrap64 ((rd x1 x7)*t130)) x0]) t130 (wrap64 (x7+1))) else (none)))) else (none)) else (if 0≤x7 then (if x0=0 then (none) else (if x5.length < 17592186044416 then (zf.l0 k x0 x1 (x5++[Int.tmod (wrap64 ((rd x1 x7)*x6)) x0]) x6 (wrap64 (x7+1))) else (none))) else (none))) else (some x5)
def zf.f (k:Nat) (a0:Int) (l1:List Int):Option (List Int):=zf.l0 k a0 l1 (([]:List Int)) 0 0
theorem zf.mono_l :∀ k,(∀ y0 y1 y2 y3 y4,LeO (zf.l0 k y0 y1 y2 y3 y4) (zf.l0 (k+1) y0 y1 y2 y3 y4))
 | 0=>fun _ _ _ _ _ r h=>by simp[zf.l0]at h
 | k+1=>by
  have ih0:=zf.mono_l k
  ·intro y0 y1 y2 y3 y4
   unfold zf.l0
   repeat' first | (with_reducible first | apply ih0 | apply z7.mono | exact LeO.refl _ | exact LeO.none _ | refine LeO.ite ?_ ?_ | refine LeO.bind ?_ (fun _=>?_)) | (first | apply ih0 | apply z7.mono | exact LeO.none _ | refine LeO.ite ?_ ?_ | refine LeO.bind ?_ (fun _=>?_))
theorem zf.mono :∀ a0 a1 k,LeO (zf.f k a0 a1) (zf.f (k+1) a0 a1):=by
 intro a0 a1 k
 have ih0:=zf.mono_l k
 unfold zf.f
 repeat' first | (with_reducible first | apply ih0 | apply z7.mono | exact LeO.refl _ | exact LeO.none _ | refine LeO.ite ?_ ?_ | refine LeO.bind ?_ (fun _=>?_)) | (first | apply ih0 | apply z7.mono | exact LeO.none _ | refine LeO.ite ?_ ?_ | refine LeO.bind ?_ (fun _=>?_))
theorem zf.calls (k:Nat) (a0:Int) (A1:Option Addr) (c1:Nat) (l1:List Int) (r:List Int) (w:World) (hr1:Kd.C (Kd.int .i64) w A1 l1.length l1) (hc1:l1.length≤c1) (h:zf.f k a0 l1=some r):
  Calls Try.prog 80 #[.int .i64 a0,.slice A1 l1.length c1] w fun e w'=>∃ v0_:Value,e=.returned (v0_)∧Kd.R (Kd.int .i64) 3 w' w.heap.size (fun _=>True) v0_ r∧Below w.heap.size w w':=by
 have HR1:=am hr1
 have HC1:=am hc1
 clear hr1 hc1
 have HB:=am (Below.refl w.heap.size w)
 have H:(zf.l0 k a0 l1 (([]:List Int)) 0 0)=some r:=h
 clear h
 generalize hy126:(([]:List Int))=y126 at H
 have Ny126:=am hy126.symm;clear hy126;have H':=am H;clear H
 go_enter Try.func80,Try.ntmps80
 go_wp2_with (first | ((with_reducible refine zb (N:=8) rfl ?_);refine li 3 ([]:List Int) ?_;intro v127 w3 ho4 hb;(first | rw[← Ny126.out]at ho4 | (simp only[Int.reduceToNat]at ho4;rw[← Ny126.out]at ho4));have HO128:=am (Kd.R_lower ho4 (bz HB));replace HB:=bq HB hb;clear hb ho4))
 go_loopg [5,6,7] k (fun kq v5 v6 v7 w'=>∃ (x5_1:List Int) (x6_1:Int) (x7_1:Int),v6=.int .i64 x6_1∧v7=.int .i64 x7_1∧qf (zf.l0 kq a0 l1 x5_1 x6_1 x7_1=some r)∧qf (kq≤k)∧qf (Kd.R (Kd.int .i64) 3 w' w.heap.size (fun _=>True) v5 x5_1)∧qf (Below w.heap.size w w'))
 case atStart=>exact⟨(y126),(0),(0),fr,fr,H',⟨Nat.le_refl _⟩,⟨wR HO128⟩,⟨bw HB⟩⟩
 case round=>
  clear H';try clear c1;try clear p2
  obtain⟨x5_1,x6_1,x7_1,rfl,rfl,HA,HK1,HO_5,HB⟩:=hrel
  cases gk with
  | zero=>exact absurd HA.out (by simp[zf.l0])
  | succ k1=>
   have H:=HA.out;clear HA
   simp only[zf.l0]at H
   by_cases c5:x7_1 < (l1.length:Int)
   ·rw[if_pos c5]at H
    have c5b0:=decide_eq_true c5;clear c5
    by_cases c6:x6_1=0
    ·rw[if_pos c6]at H
     have c6b0:=beq_iff_eq.mpr c6;have c6b1:=bne_eq_false_iff_eq.mpr c6;clear c6;replace H:=ifn H;obtain⟨c7,H⟩:=H;have c7b0:=decide_eq_true c7;clear c7;replace H:=bs H;obtain⟨t130,A8,H⟩:=H;replace H:=ifm H;obtain⟨c9,H⟩:=H
     have c9b0:=beq_eq_false_iff_ne.mpr c9;have c9b1:=bne_iff_ne.mpr c9;replace H:=ifn H;obtain⟨c10,H⟩:=H;have LMc10:=am c10;clear c10
     generalize hy132:(x5_1++[Int.tmod (wrap64 ((rd l1 x7_1)*t130)) a0]:List Int)=y132 at H
     have Ny132:=am hy132.symm;clear hy132;have H':=am H;clear H
     have p129:0≤(x7_1:Int):=od
     have q129:x7_1 < (l1.length:Int):=od
     obtain⟨ad129,e129,hx129_0⟩:=Kd.at_int HR1.out x7_1 p129 q129
     cases e129
     replace hx129_0:=wcl HB hx129_0
     replace p129:=eq_true p129;replace q129:=eq_true q129
     go_wp2_with (first | ((with_reducible refine qt (f:=125) rfl ?_);refine gl 22 Try.func125 #[.int .i64 a0,.int .i64 (rd l1 x7_1)] ?_;(with_reducible refine(z7.calls k1 a0 (rd l1 x7_1) t130 _ A8.out).mono ?_);rintro e w' ⟨rfl,⟨nd,rfl⟩⟩;refine⟨_,rfl,?_⟩;have p131:0≤(x7_1:Int):=od;have q131:x7_1 < (l1.length:Int):=od;obtain⟨ad131,e131,hx131_0⟩:=Kd.at_int HR1.out x7_1 p131 q131;obtain rfl:ad129=ad131:=(by injection e131);replace hx131_0:=wcl HB hx131_0;replace p131:=eq_true p131;replace q131:=eq_true q131) | ((with_reducible refine jr (b:=.append) (xs:=#[.tmp 23,.tmp 32]) rfl ?_);at_builtin;refine Kd.R_append (Kd.int .i64) (w0:=w) w.heap.size rfl (.tmp 23) (.tmp 32) 23 3 (.int .i64 0) 8 rfl Try.underlying23 Jm rfl (by decide) (by omega) u5 x5_1 (Int.tmod (wrap64 ((rd l1 x7_1)*t130)) a0) [.int .i64 (Int.tmod (wrap64 ((rd l1 x7_1)*t130)) a0)] (fun _=>True) (fun _=>False) rfl rfl ?aP (fun _ hk=>hk.elim) ?aF ?aO ?aB ?aS ?aL ?_;(case aP=>exact rfl);(case aB=>exact(bw HB));(case aF=>exact(fun _ _=>trivial));(case aO=>exact(wR HO_5));(case aS=>exact(bz HB));(case aL=>have:=LMc10.out;omega);intro v133 w11 ho hb hg hat;rw[← Ny132.out]at ho;replace HB:=am (hb);have HO134:=am (ho);clear HO_5;clear ho hb hg hat))
     go_roundg k1
     case measure=>have:=HK1.out;omega
     case rel=>exact⟨(y132),(t130),(wrap64 (x7_1+1)),fr,fr,H',⟨by have:=HK1.out;omega⟩,⟨wR HO134⟩,⟨bw HB⟩⟩
    ·rw[if_neg c6]at H
     have c6b0:=beq_eq_false_iff_ne.mpr c6;have c6b1:=bne_iff_ne.mpr c6;replace H:=ifn H;obtain⟨c12,H⟩:=H;have c12b0:=decide_eq_true c12;clear c12;replace H:=ifm H;obtain⟨c13,H⟩:=H;have c13b0:=beq_eq_false_iff_ne.mpr c13
     have c13b1:=bne_iff_ne.mpr c13;replace H:=ifn H;obtain⟨c14,H⟩:=H;have LMc14:=am c14;clear c14
     generalize hy136:(x5_1++[Int.tmod (wrap64 ((rd l1 x7_1)*x6_1)) a0]:List Int)=y136 at H
     have Ny136:=am hy136.symm;clear hy136;have H':=am H;clear H
     have p135:0≤(x7_1:Int):=od
     have q135:x7_1 < (l1.length:Int):=od
     obtain⟨ad135,e135,hx135_0⟩:=Kd.at_int HR1.out x7_1 p135 q135
     cases e135
     replace hx135_0:=wcl HB hx135_0
     replace p135:=eq_true p135;replace q135:=eq_true q135
     go_wp2_with (first | ((with_reducible refine jr (b:=.append) (xs:=#[.tmp 23,.tmp 32]) rfl ?_);at_builtin;refine Kd.R_append (Kd.int .i64) (w0:=w) w.heap.size rfl (.tmp 23) (.tmp 32) 23 3 (.int .i64 0) 8 rfl Try.underlying23 Jm rfl (by decide) (by omega) u5 x5_1 (Int.tmod (wrap64 ((rd l1 x7_1)*x6_1)) a0) [.int .i64 (Int.tmod (wrap64 ((rd l1 x7_1)*x6_1)) a0)] (fun _=>True) (fun _=>False) rfl rfl ?aP (fun _ hk=>hk.elim) ?aF ?aO ?aB ?aS ?aL ?_;(case aP=>exact rfl);(case aB=>exact(bw HB));(case aF=>exact(fun _ _=>trivial));(case aO=>exact(wR HO_5));(case aS=>exact(bz HB));(case aL=>have:=LMc14.out;omega);intro v137 w15 ho hb hg hat;rw[← Ny136.out]at ho;replace HB:=am (hb);have HO138:=am (ho);clear HO_5;clear ho hb hg hat))
     go_roundg k1
     case measure=>have:=HK1.out;omega
     case rel=>exact⟨(y136),(x6_1),(wrap64 (x7_1+1)),fr,fr,H',⟨by have:=HK1.out;omega⟩,⟨wR HO138⟩,⟨bw HB⟩⟩
   ·rw[if_neg c5]at H
    have c5b0:=decide_eq_false c5;clear c5;obtain rfl:=Option.some.inj H;go_wp2;go_ret
    exact⟨_,fq,wR HO_5,bw HB⟩
def j9.f (a0:Int) (a1:Int) (a2:Int):Option (Bool):=if a0≥a1 then (some (decide (a0≤a2))) else (some false)
theorem j9.calls (a0:Int) (a1:Int) (a2:Int) (r:Bool) (w:World) (h:j9.f a0 a1 a2=some r):
  Calls Try.prog 87 #[.int .i64 a0,.int .i64 a1,.int .i64 a2] w fun e w'=>e=.returned (.bool r)∧Drawn0 w w':=by
 have H:(if a0≥a1 then (some (decide (a0≤a2))) else (some false))=some r:=h
 clear h
 by_cases c4:a0≥a1
 ·rw[if_pos c4]at H
  have c4b0:=decide_eq_true c4;clear c4;obtain rfl:=Option.some.inj H
  go_enter Try.func87,Try.ntmps87
  go_wp2;go_ret
  exact⟨fr,df⟩
 ·rw[if_neg c4]at H
  have c4b0:=decide_eq_false c4;clear c4;obtain rfl:=Option.some.inj H
  go_enter Try.func87,Try.ntmps87
  go_wp2;go_ret
  exact⟨fr,df⟩
def linB (p x:Int):Bool:=decide (0≤x) && decide (x≤wrap64 (p - 1))
theorem Q6 (p x:Int):j9.f x 0 (wrap64 (p - 1))=some (linB p x):=by
 unfold j9.f linB
 by_cases h:x≥0
 ·rw[if_pos h,decide_eq_true (show 0≤x from h),Bool.true_and]
 ·rw[if_neg h,decide_eq_false (show ¬ 0≤x from h),Bool.false_and]
theorem qhv {w:World} {b:Nat} {x y z:Int} {t:TypeId} (h:w.heap[b]? =some (.cells #[.int .i64 x,.int .i64 y,.int .i64 z] t (0,0))):Kd.C (Kd.int .i64) w (some ⟨b,0,none⟩) 3 [x,y,z]:=by
 refine Kd.C_of_reads (d:=(0:Int)) (h1:=fun _=>rfl) ⟨rfl,by omega,fun _=>⟨_,rfl,fun j hj=>?_⟩⟩
 have e:=cell_of_row w b j _ _ _ h
 rcases (show j=0∨j=1∨j=2 by omega) with rfl | rfl | rfl<;>exact e
def jj.f (k:Nat) (p x y z:Int):Option Bool:=if linB p x=true then if linB p y=true then if linB p z=true then (zf.f k p [x,y,z]).bind fun r=>(zl.f k r).bind fun b=>if b=true then some false else if 3≤r.length then some ((rd r 0 == x) && (rd r 1 == y) && (rd r 2 == z)) else none else some false else some false else some false
theorem jj.mono :∀ a0 a1 a2 a3 k,LeO (jj.f k a0 a1 a2 a3) (jj.f (k+1) a0 a1 a2 a3):=by
 intro a0 a1 a2 a3 k
 unfold jj.f
 exact LeO.ite (LeO.ite (LeO.ite (LeO.bind (zf.mono _ _ _) fun _=>LeO.bind (zl.mono _ _) fun _=>LeO.refl _) (LeO.refl _)) (LeO.refl _)) (LeO.refl _)
def jj.T7 :Bool×List (List Nat×List Nat):=(true,[([],[]),([0],[0]),([1],[1]),([2,1],[2]),([3],[3]),([4,3],[3,4]),([5,3],[3,5]),([3],[3]),([7,3],[3,7]),([8,3],[3,8]),([6,9,3],[3,6,9]),([3,10],[3,10]),([11,3],[11]),([12],[12]),([13,12],[12,13]),([14,12],[12,14]),([12],[12]),([16,12],[12,16]),([17,12],[12,17]),([15,18,12],[12,15,18]),([12,19],[12,19]),([20,12],[20]),([21],[21]),([22,21],[21,22]),([23,21],[21,23]),([21],[21]),([25,21],[21,25]),([26,21],[21,26]),([24,27,21],[21,24,27]),([21,28],[21,28]),([29,21,0,1,2,3,4,5,6,7,8,9,10,11,12,13,14,15,16,17,18,19,20,21,22,23,24,25,26,27,28,29],[29])])
def jj.B7 :List Nat:=[0,1,3,7,15,31,63,15,143,399,1023,2047,4095,8191,16383,32767,8191,73727,204799,524287,1048575,2097151,4194303,8388607,16777215,4194303,37748735,104857599,268435455,536870911,1073741823]
theorem jj.tab7 :rtab .any (Z0 Try.f122 7)=jj.T7:=by kernel_rfl
theorem jj.bits7 :Qj jj.T7.2 jj.B7=true:=by kernel_rfl
theorem jj.outX (k:Nat) (p x y z:Int) (r:Bool) (w:World) (hx:linB p x=false):
  Calls Try.prog 122 #[.int .i64 p,.agg #[.int .i64 x,.int .i64 y,.int .i64 z]] w fun e w'=>e=.returned (.bool false)∧Below w.heap.size w w':=by
 have hu43:=Try.underlying43
 have hu41:=Try.underlying41
 have HB:=am (Below.refl w.heap.size w)
 clear k
 go_enter Try.func122,Try.ntmps122
 go_wp2_with fail
 refine wp_loop_rounds 4 ?_
 rw[rounds_succ]
 go_wp2_with fail
 refine(j9.calls x 0 _ false _ ((Q6 p x).trans (congrArg some hx))).mono ?_
 rintro e w1 ⟨rfl,⟨m1,rfl⟩⟩
 go_wp2_with fail
 go_ret
 exact⟨fq,bw HB⟩
theorem jj.outY (k:Nat) (p x y z:Int) (r:Bool) (w:World) (hx:linB p x=true) (hy:linB p y=false):
  Calls Try.prog 122 #[.int .i64 p,.agg #[.int .i64 x,.int .i64 y,.int .i64 z]] w fun e w'=>e=.returned (.bool false)∧Below w.heap.size w w':=by
 have hu43:=Try.underlying43
 have hu41:=Try.underlying41
 have HB:=am (Below.refl w.heap.size w)
 clear k
 go_enter Try.func122,Try.ntmps122
 go_wp2_with fail
 refine wp_loop_rounds 4 ?_
 rw[rounds_succ]
 go_wp2_with fail
 refine(j9.calls x 0 _ true _ ((Q6 p x).trans (congrArg some hx))).mono ?_
 rintro e w1 ⟨rfl,⟨m1,rfl⟩⟩
 go_wp2_with fail
 rw[rounds_succ]
 go_wp2_with fail
 refine(j9.calls y 0 _ false _ ((Q6 p y).trans (congrArg some hy))).mono ?_
 rintro e w2 ⟨rfl,⟨m2,rfl⟩⟩
 go_wp2_with fail
 go_ret
 exact⟨fq,bw HB⟩
theorem jj.outZ (k:Nat) (p x y z:Int) (r:Bool) (w:World) (hx:linB p x=true) (hy:linB p y=true) (hz:linB p z=false):
  Calls Try.prog 122 #[.int .i64 p,.agg #[.int .i64 x,.int .i64 y,.int .i64 z]] w fun e w'=>e=.returned (.bool false)∧Below w.heap.size w w':=by
 have hu43:=Try.underlying43
 have hu41:=Try.underlying41
 have HB:=am (Below.refl w.heap.size w)
 clear k
 go_enter Try.func122,Try.ntmps122
 go_wp2_with fail
 refine wp_loop_rounds 4 ?_
 rw[rounds_succ]
 go_wp2_with fail
 refine(j9.calls x 0 _ true _ ((Q6 p x).trans (congrArg some hx))).mono ?_
 rintro e w1 ⟨rfl,⟨m1,rfl⟩⟩
 go_wp2_with fail
 rw[rounds_succ]
 go_wp2_with fail
 refine(j9.calls y 0 _ true _ ((Q6 p y).trans (congrArg some hy))).mono ?_
 rintro e w2 ⟨rfl,⟨m2,rfl⟩⟩
 go_wp2_with fail
 rw[rounds_succ]
 go_wp2_with fail
 refine(j9.calls z 0 _ false _ ((Q6 p z).trans (congrArg some hz))).mono ?_
 rintro e w3 ⟨rfl,⟨m3,rfl⟩⟩
 go_wp2_with fail
 go_ret
 exact⟨fq,bw HB⟩
theorem jj.zero (k:Nat) (p x y z:Int) (r:Bool) (w:World) (hx:linB p x=true) (hy:linB p y=true) (hz:linB p z=true) (q:List Int) (hq:zf.f k p [x,y,z]=some q) (hb:zl.f k q=some true):
  Calls Try.prog 122 #[.int .i64 p,.agg #[.int .i64 x,.int .i64 y,.int .i64 z]] w fun e w'=>e=.returned (.bool false)∧Below w.heap.size w w':=by
 have hu43:=Try.underlying43
 have hu41:=Try.underlying41
 have HB:=am (Below.refl w.heap.size w)
 have HQ:=am hq;have HZ:=am hb;clear hq hb
 go_enter Try.func122,Try.ntmps122
 go_wp2_with fail
 refine wp_loop_rounds 4 ?_
 rw[rounds_succ]
 go_wp2_with fail
 refine(j9.calls x 0 _ true _ ((Q6 p x).trans (congrArg some hx))).mono ?_
 rintro e w1 ⟨rfl,⟨m1,rfl⟩⟩
 go_wp2_with fail
 rw[rounds_succ]
 go_wp2_with fail
 refine(j9.calls y 0 _ true _ ((Q6 p y).trans (congrArg some hy))).mono ?_
 rintro e w2 ⟨rfl,⟨m2,rfl⟩⟩
 go_wp2_with fail
 rw[rounds_succ]
 go_wp2_with fail
 refine(j9.calls z 0 _ true _ ((Q6 p z).trans (congrArg some hz))).mono ?_
 rintro e w3 ⟨rfl,⟨m3,rfl⟩⟩
 go_wp2_with fail
 rw[rounds_succ]
 go_wp2_with fail
 have HX0:=am (Kd.C_below (qhv (w:=w.alloc (.cells #[.int .i64 x,.int .i64 y,.int .i64 z] 43)) (heap_alloc_last w _)) (gs (W':=(w.alloc (.cells #[.int .i64 x,.int .i64 y,.int .i64 z] 43)).drewN (m1+m2+m3))))
 refine(zf.calls k p (some ⟨w.heap.size,0,none⟩) 3 [x,y,z] q _ (HX0.out) (Nat.le_refl _) HQ.out).mono ?_
 rintro e w4 ⟨v0,rfl,hv,hb⟩
 have HC0:=am (Kd.C_below HX0.out hb)
 obtain⟨B1,d1,e1⟩:=Kd.R_slice hv
 subst e1
 replace HB:=bq HB hb
 have HV:=am (Kd.R_reads' hv)
 clear hv hb
 go_wp2_with fail
 refine st 31 (fun w'=>True) [] jj.tab7 jj.bits7 trivial fun hHeld HT_ HW_=>?_
 refine pz 0 23 HT_ ?_
 refine on 1 (some 24) HT_ fun K hK=>?_
 refine gs_ Try.func79 #[.slice B1 q.length d1] ?_
 refine(zl.calls k B1 d1 q true _ (Kd.C_below HV.out.2.2 gs) HV.out.2.1 HZ.out).mono ?_
 rintro e w5 ⟨rfl,⟨m5,rfl⟩⟩
 refine⟨_,rfl,?_⟩
 refine hK.out _ _ trivial fun hHeld=>nz ?_
 clear hK K
 refine pz 2 25 HT_ ?_;refine pz 3 26 HT_ ?_;refine po 4 27 HT_ ?_;refine po 5 28 HT_ ?_;refine po 6 29 HT_ ?_;refine po 7 30 HT_ ?_;refine po 8 31 HT_ ?_;refine po 9 32 HT_ ?_;refine po 10 33 HT_ ?_;refine pz 11 34 HT_ ?_;refine pz 12 35 HT_ ?_;refine po 13 36 HT_ ?_;refine po 14 37 HT_ ?_;refine po 15 38 HT_ ?_;refine po 16 39 HT_ ?_;refine po 17 40 HT_ ?_;refine po 18 41 HT_ ?_;refine po 19 42 HT_ ?_;refine pz 20 43 HT_ ?_;refine pz 21 44 HT_ ?_;refine po 22 45 HT_ ?_;refine po 23 46 HT_ ?_;refine po 24 47 HT_ ?_;refine po 25 48 HT_ ?_;refine po 26 49 HT_ ?_;refine po 27 50 HT_ ?_;refine po 28 51 HT_ ?_;refine pz 29 52 HT_ ?_;refine pz 30 4 HT_ ?_
 refine Q3 (Qa HT_.out (by kernel_rfl)) ?_
 try go_wp2
 go_ret
 exact⟨fq,bw HB⟩
theorem jj.ne0 (k:Nat) (p x y z:Int) (r:Bool) (w:World) (hx:linB p x=true) (hy:linB p y=true) (hz:linB p z=true) (q:List Int) (hq:zf.f k p [x,y,z]=some q) (hb:zl.f k q=some false) (hl:3≤q.length) (e0:(rd q 0 == x)=false):
  Calls Try.prog 122 #[.int .i64 p,.agg #[.int .i64 x,.int .i64 y,.int .i64 z]] w fun e w'=>e=.returned (.bool false)∧Below w.heap.size w w':=by
 have hu43:=Try.underlying43
 have hu41:=Try.underlying41
 have HB:=am (Below.refl w.heap.size w)
 have HQ:=am hq;have HZ:=am hb;have HL:=am hl;clear hq hb
 go_enter Try.func122,Try.ntmps122
 go_wp2_with fail
 refine wp_loop_rounds 4 ?_
 rw[rounds_succ]
 go_wp2_with fail
 refine(j9.calls x 0 _ true _ ((Q6 p x).trans (congrArg some hx))).mono ?_
 rintro e w1 ⟨rfl,⟨m1,rfl⟩⟩
 go_wp2_with fail
 rw[rounds_succ]
 go_wp2_with fail
 refine(j9.calls y 0 _ true _ ((Q6 p y).trans (congrArg some hy))).mono ?_
 rintro e w2 ⟨rfl,⟨m2,rfl⟩⟩
 go_wp2_with fail
 rw[rounds_succ]
 go_wp2_with fail
 refine(j9.calls z 0 _ true _ ((Q6 p z).trans (congrArg some hz))).mono ?_
 rintro e w3 ⟨rfl,⟨m3,rfl⟩⟩
 go_wp2_with fail
 rw[rounds_succ]
 go_wp2_with fail
 have HX0:=am (Kd.C_below (qhv (w:=w.alloc (.cells #[.int .i64 x,.int .i64 y,.int .i64 z] 43)) (heap_alloc_last w _)) (gs (W':=(w.alloc (.cells #[.int .i64 x,.int .i64 y,.int .i64 z] 43)).drewN (m1+m2+m3))))
 refine(zf.calls k p (some ⟨w.heap.size,0,none⟩) 3 [x,y,z] q _ (HX0.out) (Nat.le_refl _) HQ.out).mono ?_
 rintro e w4 ⟨v0,rfl,hv,hb⟩
 have HC0:=am (Kd.C_below HX0.out hb)
 obtain⟨B1,d1,e1⟩:=Kd.R_slice hv
 subst e1
 replace HB:=bq HB hb
 have HV:=am (Kd.R_reads' hv)
 clear hv hb
 go_wp2_with fail
 obtain⟨ad,ea,hx0⟩:=Kd.at_int HV.out.2.2 0 (by omega) (by omega)
 obtain rfl:=ea
 obtain⟨ad1,ea1,hx1⟩:=Kd.at_int HV.out.2.2 1 (by omega) (by omega)
 obtain rfl:ad=ad1:=by injection ea1
 obtain⟨ad2,ea2,hx2⟩:=Kd.at_int HV.out.2.2 2 (by omega) (by omega)
 obtain rfl:ad=ad2:=by injection ea2
 rw[show ((0:Int)).toNat=0 from rfl,Addr.add_zero']at hx0
 simp only[show (1:Int).toNat=1 from rfl,Nat.reduceMul,Nat.reduceEqDiff,Go.Addr.add,↓reduceIte]at hx1
 simp only[show (2:Int).toNat=2 from rfl,Nat.reduceMul,Nat.reduceEqDiff,Go.Addr.add,↓reduceIte]at hx2
 have l0:(0 < q.length)=True:=eq_true (by omega)
 have l1:(1 < (q.length:Int))=True:=eq_true (by omega)
 have l2:(2 < (q.length:Int))=True:=eq_true (by omega)
 obtain⟨a0,f0,g0⟩:=Kd.at_int HC0.out 0 (by omega) (by simp)
 obtain rfl:=Option.some.inj f0
 obtain⟨a1,f1,g1⟩:=Kd.at_int HC0.out 1 (by omega) (by simp)
 obtain rfl:=Option.some.inj f1
 obtain⟨a2,f2,g2⟩:=Kd.at_int HC0.out 2 (by omega) (by simp)
 obtain rfl:=Option.some.inj f2
 replace g0:w4.cell? ⟨w.heap.size,0,none⟩=some (.int .i64 x):=g0
 replace g1:w4.cell? ⟨w.heap.size,1,none⟩=some (.int .i64 y):=by simpa [Addr.add,rd] using g1
 replace g2:w4.cell? ⟨w.heap.size,2,none⟩=some (.int .i64 z):=by simpa [Addr.add,rd] using g2
 have p0:(0≤(0:Int))=True:=eq_true (by omega)
 have p1:(0≤(1:Int))=True:=eq_true (by omega)
 have p2:(0≤(2:Int))=True:=eq_true (by omega)
 have hHeld0:(fun w'=>w'.cell? ad=some (.int .i64 (rd q 0))∧w'.cell? ⟨ad.block,ad.off+1,none⟩=some (.int .i64 (rd q 1))∧w'.cell? ⟨ad.block,ad.off+2,none⟩=some (.int .i64 (rd q 2))∧w'.cell? ⟨w.heap.size,0,none⟩=some (.int .i64 x)∧w'.cell? ⟨w.heap.size,1,none⟩=some (.int .i64 y)∧w'.cell? ⟨w.heap.size,2,none⟩=some (.int .i64 z)) w4.drew:=⟨hx0,hx1,hx2,g0,g1,g2⟩
 refine st 31 (fun w'=>w'.cell? ad=some (.int .i64 (rd q 0))∧w'.cell? ⟨ad.block,ad.off+1,none⟩=some (.int .i64 (rd q 1))∧w'.cell? ⟨ad.block,ad.off+2,none⟩=some (.int .i64 (rd q 2))∧w'.cell? ⟨w.heap.size,0,none⟩=some (.int .i64 x)∧w'.cell? ⟨w.heap.size,1,none⟩=some (.int .i64 y)∧w'.cell? ⟨w.heap.size,2,none⟩=some (.int .i64 z)) [] jj.tab7 jj.bits7 hHeld0 fun hHeld HT_ HW_=>?_
 refine pz 0 23 HT_ ?_
 refine on 1 (some 24) HT_ fun K hK=>?_
 refine gs_ Try.func79 #[.slice (some ad) q.length d1] ?_
 refine(zl.calls k (some ad) d1 q false _ (Kd.C_below HV.out.2.2 gs) HV.out.2.1 HZ.out).mono ?_
 rintro e w5 ⟨rfl,⟨m5,rfl⟩⟩
 refine⟨_,rfl,?_⟩
 refine hK.out _ _ ⟨hx0,hx1,hx2,g0,g1,g2⟩ fun hHeld=>nz ?_
 clear hK K
 refine pz 2 25 HT_ ?_;refine pz 3 26 HT_ ?_;refine pz 4 27 HT_ ?_;refine pz 5 28 HT_ ?_;refine tk 6 29 HT_ HW_ hHeld ?_;refine pz 7 30 HT_ ?_;refine pz 8 31 HT_ ?_;refine tk 9 32 HT_ HW_ hHeld ?_;refine pz 10 33 HT_ ?_;refine pz 11 34 HT_ ?_;refine pz 12 35 HT_ ?_;refine po 13 36 HT_ ?_;refine po 14 37 HT_ ?_;refine po 15 38 HT_ ?_;refine po 16 39 HT_ ?_;refine po 17 40 HT_ ?_;refine po 18 41 HT_ ?_;refine po 19 42 HT_ ?_;refine pz 20 43 HT_ ?_;refine pz 21 44 HT_ ?_;refine po 22 45 HT_ ?_;refine po 23 46 HT_ ?_;refine po 24 47 HT_ ?_;refine po 25 48 HT_ ?_;refine po 26 49 HT_ ?_;refine po 27 50 HT_ ?_;refine po 28 51 HT_ ?_;refine pz 29 52 HT_ ?_;refine pz 30 4 HT_ ?_
 refine Q3 (Qa HT_.out (by kernel_rfl)) ?_
 try go_wp2
 go_ret
 exact⟨fq,bw HB⟩
theorem jj.ne1 (k:Nat) (p x y z:Int) (r:Bool) (w:World) (hx:linB p x=true) (hy:linB p y=true) (hz:linB p z=true) (q:List Int) (hq:zf.f k p [x,y,z]=some q) (hb:zl.f k q=some false) (hl:3≤q.length) (e0:(rd q 0 == x)=true) (e1:(rd q 1 == y)=false):
  Calls Try.prog 122 #[.int .i64 p,.agg #[.int .i64 x,.int .i64 y,.int .i64 z]] w fun e w'=>e=.returned (.bool false)∧Below w.heap.size w w':=by
 have hu43:=Try.underlying43
 have hu41:=Try.underlying41
 have HB:=am (Below.refl w.heap.size w)
 have HQ:=am hq;have HZ:=am hb;have HL:=am hl;clear hq hb
 go_enter Try.func122,Try.ntmps122
 go_wp2_with fail
 refine wp_loop_rounds 4 ?_
 rw[rounds_succ]
 go_wp2_with fail
 refine(j9.calls x 0 _ true _ ((Q6 p x).trans (congrArg some hx))).mono ?_
 rintro e w1 ⟨rfl,⟨m1,rfl⟩⟩
 go_wp2_with fail
 rw[rounds_succ]
 go_wp2_with fail
 refine(j9.calls y 0 _ true _ ((Q6 p y).trans (congrArg some hy))).mono ?_
 rintro e w2 ⟨rfl,⟨m2,rfl⟩⟩
 go_wp2_with fail
 rw[rounds_succ]
 go_wp2_with fail
 refine(j9.calls z 0 _ true _ ((Q6 p z).trans (congrArg some hz))).mono ?_
 rintro e w3 ⟨rfl,⟨m3,rfl⟩⟩
 go_wp2_with fail
 rw[rounds_succ]
 go_wp2_with fail
 have HX0:=am (Kd.C_below (qhv (w:=w.alloc (.cells #[.int .i64 x,.int .i64 y,.int .i64 z] 43)) (heap_alloc_last w _)) (gs (W':=(w.alloc (.cells #[.int .i64 x,.int .i64 y,.int .i64 z] 43)).drewN (m1+m2+m3))))
 refine(zf.calls k p (some ⟨w.heap.size,0,none⟩) 3 [x,y,z] q _ (HX0.out) (Nat.le_refl _) HQ.out).mono ?_
 rintro e w4 ⟨v0,rfl,hv,hb⟩
 have HC0:=am (Kd.C_below HX0.out hb)
 obtain⟨B1,d1,e1⟩:=Kd.R_slice hv
 subst e1
 replace HB:=bq HB hb
 have HV:=am (Kd.R_reads' hv)
 clear hv hb
 go_wp2_with fail
 obtain⟨ad,ea,hx0⟩:=Kd.at_int HV.out.2.2 0 (by omega) (by omega)
 obtain rfl:=ea
 obtain⟨ad1,ea1,hx1⟩:=Kd.at_int HV.out.2.2 1 (by omega) (by omega)
 obtain rfl:ad=ad1:=by injection ea1
 obtain⟨ad2,ea2,hx2⟩:=Kd.at_int HV.out.2.2 2 (by omega) (by omega)
 obtain rfl:ad=ad2:=by injection ea2
 rw[show ((0:Int)).toNat=0 from rfl,Addr.add_zero']at hx0
 simp only[show (1:Int).toNat=1 from rfl,Nat.reduceMul,Nat.reduceEqDiff,Go.Addr.add,↓reduceIte]at hx1
 simp only[show (2:Int).toNat=2 from rfl,Nat.reduceMul,Nat.reduceEqDiff,Go.Addr.add,↓reduceIte]at hx2
 have l0:(0 < q.length)=True:=eq_true (by omega)
 have l1:(1 < (q.length:Int))=True:=eq_true (by omega)
 have l2:(2 < (q.length:Int))=True:=eq_true (by omega)
 obtain⟨a0,f0,g0⟩:=Kd.at_int HC0.out 0 (by omega) (by simp)
 obtain rfl:=Option.some.inj f0
 obtain⟨a1,f1,g1⟩:=Kd.at_int HC0.out 1 (by omega) (by simp)
 obtain rfl:=Option.some.inj f1
 obtain⟨a2,f2,g2⟩:=Kd.at_int HC0.out 2 (by omega) (by simp)
 obtain rfl:=Option.some.inj f2
 replace g0:w4.cell? ⟨w.heap.size,0,none⟩=some (.int .i64 x):=g0
 replace g1:w4.cell? ⟨w.heap.size,1,none⟩=some (.int .i64 y):=by simpa [Addr.add,rd] using g1
 replace g2:w4.cell? ⟨w.heap.size,2,none⟩=some (.int .i64 z):=by simpa [Addr.add,rd] using g2
 have p0:(0≤(0:Int))=True:=eq_true (by omega)
 have p1:(0≤(1:Int))=True:=eq_true (by omega)
 have p2:(0≤(2:Int))=True:=eq_true (by omega)
 have hHeld0:(fun w'=>w'.cell? ad=some (.int .i64 (rd q 0))∧w'.cell? ⟨ad.block,ad.off+1,none⟩=some (.int .i64 (rd q 1))∧w'.cell? ⟨ad.block,ad.off+2,none⟩=some (.int .i64 (rd q 2))∧w'.cell? ⟨w.heap.size,0,none⟩=some (.int .i64 x)∧w'.cell? ⟨w.heap.size,1,none⟩=some (.int .i64 y)∧w'.cell? ⟨w.heap.size,2,none⟩=some (.int .i64 z)) w4.drew:=⟨hx0,hx1,hx2,g0,g1,g2⟩
 refine st 31 (fun w'=>w'.cell? ad=some (.int .i64 (rd q 0))∧w'.cell? ⟨ad.block,ad.off+1,none⟩=some (.int .i64 (rd q 1))∧w'.cell? ⟨ad.block,ad.off+2,none⟩=some (.int .i64 (rd q 2))∧w'.cell? ⟨w.heap.size,0,none⟩=some (.int .i64 x)∧w'.cell? ⟨w.heap.size,1,none⟩=some (.int .i64 y)∧w'.cell? ⟨w.heap.size,2,none⟩=some (.int .i64 z)) [] jj.tab7 jj.bits7 hHeld0 fun hHeld HT_ HW_=>?_
 refine pz 0 23 HT_ ?_
 refine on 1 (some 24) HT_ fun K hK=>?_
 refine gs_ Try.func79 #[.slice (some ad) q.length d1] ?_
 refine(zl.calls k (some ad) d1 q false _ (Kd.C_below HV.out.2.2 gs) HV.out.2.1 HZ.out).mono ?_
 rintro e w5 ⟨rfl,⟨m5,rfl⟩⟩
 refine⟨_,rfl,?_⟩
 refine hK.out _ _ ⟨hx0,hx1,hx2,g0,g1,g2⟩ fun hHeld=>nz ?_
 clear hK K
 refine pz 2 25 HT_ ?_;refine pz 3 26 HT_ ?_;refine pz 4 27 HT_ ?_;refine pz 5 28 HT_ ?_;refine tk 6 29 HT_ HW_ hHeld ?_;refine pz 7 30 HT_ ?_;refine pz 8 31 HT_ ?_;refine tk 9 32 HT_ HW_ hHeld ?_;refine pz 10 33 HT_ ?_;refine pz 11 34 HT_ ?_;refine pz 12 35 HT_ ?_;refine pz 13 36 HT_ ?_;refine pz 14 37 HT_ ?_;refine tk 15 38 HT_ HW_ hHeld ?_;refine pz 16 39 HT_ ?_;refine pz 17 40 HT_ ?_;refine tk 18 41 HT_ HW_ hHeld ?_;refine pz 19 42 HT_ ?_;refine pz 20 43 HT_ ?_;refine pz 21 44 HT_ ?_;refine po 22 45 HT_ ?_;refine po 23 46 HT_ ?_;refine po 24 47 HT_ ?_;refine po 25 48 HT_ ?_;refine po 26 49 HT_ ?_;refine po 27 50 HT_ ?_;refine po 28 51 HT_ ?_;refine pz 29 52 HT_ ?_;refine pz 30 4 HT_ ?_
 refine Q3 (Qa HT_.out (by kernel_rfl)) ?_
 try go_wp2
 go_ret
 exact⟨fq,bw HB⟩
theorem jj.eq (k:Nat) (p x y z:Int) (r:Bool) (w:World) (hx:linB p x=true) (hy:linB p y=true) (hz:linB p z=true) (q:List Int) (hq:zf.f k p [x,y,z]=some q) (hb:zl.f k q=some false) (hl:3≤q.length) (e0:(rd q 0 == x)=true) (e1:(rd q 1 == y)=true):
  Calls Try.prog 122 #[.int .i64 p,.agg #[.int .i64 x,.int .i64 y,.int .i64 z]] w fun e w'=>e=.returned (.bool (rd q 2 == z))∧Below w.heap.size w w':=by
 have hu43:=Try.underlying43
 have hu41:=Try.underlying41
 have HB:=am (Below.refl w.heap.size w)
 have HQ:=am hq;have HZ:=am hb;have HL:=am hl;clear hq hb
 go_enter Try.func122,Try.ntmps122
 go_wp2_with fail
 refine wp_loop_rounds 4 ?_
 rw[rounds_succ]
 go_wp2_with fail
 refine(j9.calls x 0 _ true _ ((Q6 p x).trans (congrArg some hx))).mono ?_
 rintro e w1 ⟨rfl,⟨m1,rfl⟩⟩
 go_wp2_with fail
 rw[rounds_succ]
 go_wp2_with fail
 refine(j9.calls y 0 _ true _ ((Q6 p y).trans (congrArg some hy))).mono ?_
 rintro e w2 ⟨rfl,⟨m2,rfl⟩⟩
 go_wp2_with fail
 rw[rounds_succ]
 go_wp2_with fail
 refine(j9.calls z 0 _ true _ ((Q6 p z).trans (congrArg some hz))).mono ?_
 rintro e w3 ⟨rfl,⟨m3,rfl⟩⟩
 go_wp2_with fail
 rw[rounds_succ]
 go_wp2_with fail
 have HX0:=am (Kd.C_below (qhv (w:=w.alloc (.cells #[.int .i64 x,.int .i64 y,.int .i64 z] 43)) (heap_alloc_last w _)) (gs (W':=(w.alloc (.cells #[.int .i64 x,.int .i64 y,.int .i64 z] 43)).drewN (m1+m2+m3))))
 refine(zf.calls k p (some ⟨w.heap.size,0,none⟩) 3 [x,y,z] q _ (HX0.out) (Nat.le_refl _) HQ.out).mono ?_
 rintro e w4 ⟨v0,rfl,hv,hb⟩
 have HC0:=am (Kd.C_below HX0.out hb)
 obtain⟨B1,d1,e1⟩:=Kd.R_slice hv
 subst e1
 replace HB:=bq HB hb
 have HV:=am (Kd.R_reads' hv)
 clear hv hb
 go_wp2_with fail
 obtain⟨ad,ea,hx0⟩:=Kd.at_int HV.out.2.2 0 (by omega) (by omega)
 obtain rfl:=ea
 obtain⟨ad1,ea1,hx1⟩:=Kd.at_int HV.out.2.2 1 (by omega) (by omega)
 obtain rfl:ad=ad1:=by injection ea1
 obtain⟨ad2,ea2,hx2⟩:=Kd.at_int HV.out.2.2 2 (by omega) (by omega)
 obtain rfl:ad=ad2:=by injection ea2
 rw[show ((0:Int)).toNat=0 from rfl,Addr.add_zero']at hx0
 simp only[show (1:Int).toNat=1 from rfl,Nat.reduceMul,Nat.reduceEqDiff,Go.Addr.add,↓reduceIte]at hx1
 simp only[show (2:Int).toNat=2 from rfl,Nat.reduceMul,Nat.reduceEqDiff,Go.Addr.add,↓reduceIte]at hx2
 have l0:(0 < q.length)=True:=eq_true (by omega)
 have l1:(1 < (q.length:Int))=True:=eq_true (by omega)
 have l2:(2 < (q.length:Int))=True:=eq_true (by omega)
 obtain⟨a0,f0,g0⟩:=Kd.at_int HC0.out 0 (by omega) (by simp)
 obtain rfl:=Option.some.inj f0
 obtain⟨a1,f1,g1⟩:=Kd.at_int HC0.out 1 (by omega) (by simp)
 obtain rfl:=Option.some.inj f1
 obtain⟨a2,f2,g2⟩:=Kd.at_int HC0.out 2 (by omega) (by simp)
 obtain rfl:=Option.some.inj f2
 replace g0:w4.cell? ⟨w.heap.size,0,none⟩=some (.int .i64 x):=g0
 replace g1:w4.cell? ⟨w.heap.size,1,none⟩=some (.int .i64 y):=by simpa [Addr.add,rd] using g1
 replace g2:w4.cell? ⟨w.heap.size,2,none⟩=some (.int .i64 z):=by simpa [Addr.add,rd] using g2
 have p0:(0≤(0:Int))=True:=eq_true (by omega)
 have p1:(0≤(1:Int))=True:=eq_true (by omega)
 have p2:(0≤(2:Int))=True:=eq_true (by omega)
 have hHeld0:(fun w'=>w'.cell? ad=some (.int .i64 (rd q 0))∧w'.cell? ⟨ad.block,ad.off+1,none⟩=some (.int .i64 (rd q 1))∧w'.cell? ⟨ad.block,ad.off+2,none⟩=some (.int .i64 (rd q 2))∧w'.cell? ⟨w.heap.size,0,none⟩=some (.int .i64 x)∧w'.cell? ⟨w.heap.size,1,none⟩=some (.int .i64 y)∧w'.cell? ⟨w.heap.size,2,none⟩=some (.int .i64 z)) w4.drew:=⟨hx0,hx1,hx2,g0,g1,g2⟩
 refine st 31 (fun w'=>w'.cell? ad=some (.int .i64 (rd q 0))∧w'.cell? ⟨ad.block,ad.off+1,none⟩=some (.int .i64 (rd q 1))∧w'.cell? ⟨ad.block,ad.off+2,none⟩=some (.int .i64 (rd q 2))∧w'.cell? ⟨w.heap.size,0,none⟩=some (.int .i64 x)∧w'.cell? ⟨w.heap.size,1,none⟩=some (.int .i64 y)∧w'.cell? ⟨w.heap.size,2,none⟩=some (.int .i64 z)) [] jj.tab7 jj.bits7 hHeld0 fun hHeld HT_ HW_=>?_
 refine pz 0 23 HT_ ?_
 refine on 1 (some 24) HT_ fun K hK=>?_
 refine gs_ Try.func79 #[.slice (some ad) q.length d1] ?_
 refine(zl.calls k (some ad) d1 q false _ (Kd.C_below HV.out.2.2 gs) HV.out.2.1 HZ.out).mono ?_
 rintro e w5 ⟨rfl,⟨m5,rfl⟩⟩
 refine⟨_,rfl,?_⟩
 refine hK.out _ _ ⟨hx0,hx1,hx2,g0,g1,g2⟩ fun hHeld=>nz ?_
 clear hK K
 refine pz 2 25 HT_ ?_;refine pz 3 26 HT_ ?_;refine pz 4 27 HT_ ?_;refine pz 5 28 HT_ ?_;refine tk 6 29 HT_ HW_ hHeld ?_;refine pz 7 30 HT_ ?_;refine pz 8 31 HT_ ?_;refine tk 9 32 HT_ HW_ hHeld ?_;refine pz 10 33 HT_ ?_;refine pz 11 34 HT_ ?_;refine pz 12 35 HT_ ?_;refine pz 13 36 HT_ ?_;refine pz 14 37 HT_ ?_;refine tk 15 38 HT_ HW_ hHeld ?_;refine pz 16 39 HT_ ?_;refine pz 17 40 HT_ ?_;refine tk 18 41 HT_ HW_ hHeld ?_;refine pz 19 42 HT_ ?_;refine pz 20 43 HT_ ?_;refine pz 21 44 HT_ ?_;refine pz 22 45 HT_ ?_;refine pz 23 46 HT_ ?_;refine tk 24 47 HT_ HW_ hHeld ?_;refine pz 25 48 HT_ ?_;refine pz 26 49 HT_ ?_;refine tk 27 50 HT_ HW_ hHeld ?_;refine pz 28 51 HT_ ?_;refine pz 29 52 HT_ ?_;refine pz 30 4 HT_ ?_
 refine Q3 (Qa HT_.out (by kernel_rfl)) ?_
 try go_wp2
 go_ret
 exact⟨fq,bw HB⟩
theorem jj.calls (k:Nat) (p x y z:Int) (r:Bool) (w:World) (h:jj.f k p x y z=some r):
  Calls Try.prog 122 #[.int .i64 p,.agg #[.int .i64 x,.int .i64 y,.int .i64 z]] w fun e w'=>e=.returned (.bool r)∧Below w.heap.size w w':=by
 unfold jj.f at h
 split at h
 next hx=>
  split at h
  next hy=>
   split at h
   next hz=>
    obtain⟨q,hq,h⟩:=Option.bind_eq_some_iff.1 h
    obtain⟨b,hb,h⟩:=Option.bind_eq_some_iff.1 h
    cases b with
    | true=>obtain rfl:=Option.some.inj h;exact jj.zero k p x y z false w hx hy hz q hq hb
    | false=>
     rw[if_neg (by simp)]at h
     split at h
     next hl=>
      replace h:=Option.some.inj h
      cases e0:(rd q 0 == x) with
      | false=>rw[e0]at h;subst h;exact jj.ne0 k p x y z false w hx hy hz q hq hb hl e0
      | true=>
       cases e1:(rd q 1 == y) with
       | false=>rw[e0,e1]at h;subst h;exact jj.ne1 k p x y z false w hx hy hz q hq hb hl e0 e1
       | true=>rw[e0,e1]at h;subst h;exact jj.eq k p x y z false w hx hy hz q hq hb hl e0 e1
     next=>exact absurd h (by simp)
   next hz=>obtain rfl:=Option.some.inj h;exact jj.outZ k p x y z false w hx hy (by simpa using hz)
  next hy=>obtain rfl:=Option.some.inj h;exact jj.outY k p x y z false w hx (by simpa using hy)
 next hx=>obtain rfl:=Option.some.inj h;exact jj.outX k p x y z false w (by simpa using hx)
def j7.f (k:Nat) (a0:Int) (a1_0:Int) (a1_1:Int) (a1_2:Int):Option (Bool):=(Zo.f a0).bind fun t140=>(if t140=true then ((jj.f k a0 a1_0 a1_1 a1_2).bind fun t141=>(some t141)) else (some false))
theorem j7.mono :∀ a0 a1 a2 a3 k,LeO (j7.f k a0 a1 a2 a3) (j7.f (k+1) a0 a1 a2 a3):=by
 intro a0 a1 a2 a3 k
 unfold j7.f
 repeat' first | (with_reducible first | apply jj.mono | exact LeO.refl _ | exact LeO.none _ | refine LeO.ite ?_ ?_ | refine LeO.bind ?_ (fun _=>?_)) | (first | apply jj.mono | exact LeO.none _ | refine LeO.ite ?_ ?_ | refine LeO.bind ?_ (fun _=>?_))
theorem j7.calls (k:Nat) (a0:Int) (a1_0:Int) (a1_1:Int) (a1_2:Int) (r:Bool) (w:World) (h:j7.f k a0 a1_0 a1_1 a1_2=some r):
  Calls Try.prog 76 #[.int .i64 a0,.agg #[.int .i64 a1_0,.int .i64 a1_1,.int .i64 a1_2]] w fun e w'=>e=.returned (.bool r)∧Below w.heap.size w w':=by
 have hu43:=Try.underlying43
 have HB:=am (Below.refl w.heap.size w)
 have H:((Zo.f a0).bind fun t140=>(if t140=true then ((jj.f k a0 a1_0 a1_1 a1_2).bind fun t141=>(some t141)) else (some false)))=some r:=h
 clear h;replace H:=bs H;obtain⟨t140,A3,H⟩:=H
 by_cases c4:t140=true
 ·subst c4
  rw[if_pos rfl]at H
  replace H:=bs H;obtain⟨t141,A5,H⟩:=H;obtain rfl:=Option.some.inj H
  go_enter Try.func76,Try.ntmps76
  go_wp2_with (first | ((with_reducible refine zb (N:=3) rfl ?_);refine xe_ 3 43 #[.int .i64 a1_0,.int .i64 a1_1,.int .i64 a1_2] ?_;intro gb139 hg w6 hbox hb;have BK139:=am (hbox);have GW139:=am ((by rw[hg];exact(bz HB):w.heap.size≤gb139));have GE139:=am ((by rw[hg];exact(bz HB):w.heap.size≤gb139));replace HB:=bq HB hb;clear hb hbox hg) | ((with_reducible refine qt (f:=103) rfl ?_);refine gl 6 Try.func103 #[.int .i64 a0] ?_;(with_reducible refine(Zo.calls a0 true _ A3.out).mono ?_);rintro e w' ⟨rfl,⟨nd,rfl⟩⟩;refine⟨_,rfl,?_⟩;have hcz7_0:w6.cell? ⟨gb139,0,none⟩=some (.int .i64 a1_0):=(qe BK139.out 0).trans rfl;have hcz7_1:w6.cell? ⟨gb139,1,none⟩=some (.int .i64 a1_1):=(qe BK139.out 1).trans rfl;have hcz7_2:w6.cell? ⟨gb139,2,none⟩=some (.int .i64 a1_2):=(qe BK139.out 2).trans rfl;have hfz7_0:=ql BK139.out 0;have hfz7_1:=ql BK139.out 1;have hfz7_2:=ql BK139.out 2) | (go_at_call 122;(with_reducible refine(jj.calls k a0 a1_0 a1_1 a1_2 t141 _ A5.out).mono ?_);rintro e w8 ⟨rfl,hb⟩;replace BK139:=am (qv (g:=gb139) (o:=.cells #[.int .i64 a1_0,.int .i64 a1_1,.int .i64 a1_2] 43 (0,0)) (pk_ BK139) hb);replace HB:=am (jg (bx_ HB) hb);(try clear hb)))
  go_ret
  exact⟨fq,bx_ HB⟩
 ·replace c4:=Bool.eq_false_iff.mpr c4
  subst c4
  rw[if_neg (show ¬ (false=true) by decide)]at H
  obtain rfl:=Option.some.inj H
  go_enter Try.func76,Try.ntmps76
  go_wp2_with (first | ((with_reducible refine zb (N:=3) rfl ?_);refine xe_ 3 43 #[.int .i64 a1_0,.int .i64 a1_1,.int .i64 a1_2] ?_;intro gb139 hg w9 hbox hb;have BK139:=am (hbox);have GW139:=am ((by rw[hg];exact(bz HB):w.heap.size≤gb139));have GE139:=am ((by rw[hg];exact(bz HB):w.heap.size≤gb139));replace HB:=bq HB hb;clear hb hbox hg) | ((with_reducible refine qt (f:=103) rfl ?_);refine gl 6 Try.func103 #[.int .i64 a0] ?_;(with_reducible refine(Zo.calls a0 false _ A3.out).mono ?_);rintro e w' ⟨rfl,⟨nd,rfl⟩⟩;refine⟨_,rfl,?_⟩))
  go_ret
  exact⟨fq,bx_ HB⟩
def Qn.f (a0:Int) (a1:Int):Option (Int):=if a0=0 then (none) else (some (Int.tmod (wrap64 ((Int.tmod a1 a0)+a0)) a0))
theorem Qn.calls (a0:Int) (a1:Int) (r:Int) (w:World) (h:Qn.f a0 a1=some r):
  Calls Try.prog 158 #[.int .i64 a0,.int .i64 a1] w fun e w'=>e=.returned (.int .i64 r)∧Drawn0 w w':=by
 have H:(if a0=0 then (none) else (some (Int.tmod (wrap64 ((Int.tmod a1 a0)+a0)) a0)))=some r:=h
 clear h;replace H:=ifm H;obtain⟨c3,H⟩:=H;have c3b0:=beq_eq_false_iff_ne.mpr c3;have c3b1:=bne_iff_ne.mpr c3;obtain rfl:=Option.some.inj H
 go_enter Try.func158,Try.ntmps158
 go_wp2;go_ret
 exact⟨fr,df⟩
end Go.Proofs.Ytmgbpmihbljngaa.PA
