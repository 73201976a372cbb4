-- Written by xprint.py, a program of this claim's own (over the kit's print.py)
import Derived.Test.YtmgbpmihbljngaaPAx7
namespace Go.Proofs.Ytmgbpmihbljngaa.PA
set_option maxHeartbeats 8000000
set_option maxRecDepth 100000
open Go.RowKit Go.Proofs.YtmgbpmihbljngaaW.PrintWords Go.Proofs.YtmgbpmihbljngaaW.PrintLast Go.Proofs.YtmgbpmihbljngaaW.PrintMore
attribute [local go_sem] Qg Qj Qp Qo j4 j3 Qh Qf
set_option linter.unusedVariables false
set_option linter.unusedSimpArgs false
mutual
def ql.l0 :Nat→Int→List Int→List Int→Int→Int→Int→Option (Int)
 | 0,_,_,_,_,_,_=>none
 | k+1,x0,x1,x2,x7,x8,x9=>if x9 < 4 then (ql.l1 k x0 x1 x2 x7 x8 x9 x9) else (some x7)
def ql.l1 :Nat→Int→List Int→List Int→Int→Int→Int→Int→Option (Int)
 | 0,_,_,_,_,_,_,_=>none
 | k+1,x0,x1,x2,x7,x8,x9,x10=>if x10 < 4 then (ql.l2 k x0 x1 x2 x7 x8 x9 x10 x10) else (ql.l0 k x0 x1 x2 x7 x8 (wrap64 (x9+1)))
def ql.l2 :Nat→Int→List Int→List Int→Int→Int→Int→Int→Int→Option (Int)
 | 0,_,_,_,_,_,_,_,_=>none
 | k+1,x0,x1,x2,x7,x8,x9,x10,x11=>if x11 < 4 then (if 0≤x8 then (if x8 < (x1.length:Int) then (if 0≤x9 then (if x9 < (x2.length:Int) then (if x0=0 then (none) else (if 0≤x10 then (if x10 < (x2.length:Int) then (if 0≤x11 then (if x11 < (x2.length:Int) then (ql.l2 k x0 x1 x2 (Int.tmod (wrap64 (x7+(wrap64 ((Int.tmod (wrap64 ((Int.tmod (wrap64 ((rd x1 x8)*(rd x2 x9))) x0)*(rd x2 x10))) x0)*(rd x2 x11))))) x0) (wrap64 (x8+1)) x9 x10 (wrap64 (x11+1))) else (none)) else (none)) else (none)) else (none))) else (none)) else (none)) else (none)) else (none)) else (ql.l1 k x0 x1 x2 x7 x8 x9 (wrap64 (x10+1)))
end
def ql.f (k:Nat) (a0:Int) (l1:List Int) (l2:List Int):Option (Int):=ql.l0 k a0 l1 l2 0 0 0
theorem ql.mono_l :∀ k,(∀ y0 y1 y2 y3 y4 y5,LeO (ql.l0 k y0 y1 y2 y3 y4 y5) (ql.l0 (k+1) y0 y1 y2 y3 y4 y5))∧(∀ y0 y1 y2 y3 y4 y5 y6,LeO (ql.l1 k y0 y1 y2 y3 y4 y5 y6) (ql.l1 (k+1) y0 y1 y2 y3 y4 y5 y6))∧(∀ y0 y1 y2 y3 y4 y5 y6 y7,LeO (ql.l2 k y0 y1 y2 y3 y4 y5 y6 y7) (ql.l2 (k+1) y0 y1 y2 y3 y4 y5 y6 y7))
 | 0=>⟨fun _ _ _ _ _ _ r h=>by simp[ql.l0]at h,fun _ _ _ _ _ _ _ r h=>by simp[ql.l1]at h,fun _ _ _ _ _ _ _ _ r h=>by simp[ql.l2]at h⟩
 | k+1=>by
  obtain⟨ih0,ih1,ih2⟩:=ql.mono_l k
  refine⟨?_,?_,?_⟩
  ·intro y0 y1 y2 y3 y4 y5
   unfold ql.l0
   repeat' first | (with_reducible first | apply ih0 | apply ih1 | apply ih2 | exact LeO.refl _ | exact LeO.none _ | refine LeO.ite ?_ ?_ | refine LeO.bind ?_ (fun _=>?_)) | (first | apply ih0 | apply ih1 | apply ih2 | exact LeO.none _ | refine LeO.ite ?_ ?_ | refine LeO.bind ?_ (fun _=>?_))
  ·intro y0 y1 y2 y3 y4 y5 y6
   unfold ql.l1
   repeat' first | (with_reducible first | apply ih0 | apply ih1 | apply ih2 | exact LeO.refl _ | exact LeO.none _ | refine LeO.ite ?_ ?_ | refine LeO.bind ?_ (fun _=>?_)) | (first | apply ih0 | apply ih1 | apply ih2 | exact LeO.none _ | refine LeO.ite ?_ ?_ | refine LeO.bind ?_ (fun _=>?_))
  ·intro y0 y1 y2 y3 y4 y5 y6 y7
   unfold ql.l2
   repeat' first | (with_reducible first | apply ih0 | apply ih1 | apply ih2 | exact LeO.refl _ | exact LeO.none _ | refine LeO.ite ?_ ?_ | refine LeO.bind ?_ (fun _=>?_)) | (first | apply ih0 | apply ih1 | apply ih2 | exact LeO.none _ | refine LeO.ite ?_ ?_ | refine LeO.bind ?_ (fun _=>?_))
theorem ql.mono :∀ a0 a1 a2 k,LeO (ql.f k a0 a1 a2) (ql.f (k+1) a0 a1 a2):=by
 intro a0 a1 a2 k
 obtain⟨ih0,ih1,ih2⟩:=ql.mono_l k
 unfold ql.f
 repeat' first | (with_reducible first | apply ih0 | apply ih1 | apply ih2 | exact LeO.refl _ | exact LeO.none _ | refine LeO.ite ?_ ?_ | refine LeO.bind ?_ (fun _=>?_)) | (first | apply ih0 | apply ih1 | apply ih2 | exact LeO.none _ | refine LeO.ite ?_ ?_ | refine LeO.bind ?_ (fun _=>?_))
theorem ql.calls (k:Nat) (a0:Int) (A1:Option Addr) (c1:Nat) (l1:List Int) (A2:Option Addr) (c2:Nat) (l2:List Int) (r:Int) (w:World) (hr1:Kd.C (Kd.int .i64) w A1 l1.length l1) (hc1:l1.length≤c1) (hr2:Kd.C (Kd.int .i64) w A2 l2.length l2) (hc2:l2.length≤c2) (h:ql.f k a0 l1 l2=some r):
  Calls Try.prog 57 #[.int .i64 a0,.slice A1 l1.length c1,.slice A2 l2.length c2] w fun e w'=>e=.returned (.int .i64 r)∧Drawn0 w w':=by
 have HR1:=am hr1
 have HC1:=am hc1
 clear hr1 hc1
 have HR2:=am hr2
 have HC2:=am hc2
 clear hr2 hc2
 have H:(ql.l0 k a0 l1 l2 0 0 0)=some r:=h
 clear h;have H':=am H;clear H
 go_enter Try.func57,Try.ntmps57
 go_wp2
 repeat (go_quiet (fail);try go_wp2)
 go_loopg [7,8,9] k (fun kq v7 v8 v9 w'=>∃ (x7_1:Int) (x8_1:Int) (x9_1:Int),v7=.int .i64 x7_1∧v8=.int .i64 x8_1∧v9=.int .i64 x9_1∧qa (ql.l0 kq a0 l1 l2 x7_1 x8_1 x9_1=some r)∧qa (kq≤k)∧Drawn0 w w')
 case atStart=>exact⟨(0),(0),(0),fr,fr,fr,H',⟨Nat.le_refl _⟩,df⟩
 case round=>
  clear H';try clear c1;try clear c2;try clear p2
  obtain⟨x7_1,x8_1,x9_1,rfl,rfl,rfl,HA,HK1,⟨m1,rfl⟩⟩:=hrel
  cases gk with
  | zero=>exact absurd HA.out (by simp[ql.l0])
  | succ k1=>
   have H:=HA.out;clear HA
   simp only[ql.l0]at H
   by_cases c4:x9_1 < 4
   ·rw [if_pos c4] at H
    have c4b0:=decide_eq_true c4;clear c4;have H':=am H;clear H;go_wp2
    repeat (go_quiet (fail);try go_wp2)
    go_loopg [7,8,10] k1 (fun kq v7 v8 v10 w'=>∃ (x7_2:Int) (x8_2:Int) (x10_2:Int),v7=.int .i64 x7_2∧v8=.int .i64 x8_2∧v10=.int .i64 x10_2∧qa (ql.l1 kq a0 l1 l2 x7_2 x8_2 x9_1 x10_2=some r)∧qa (kq≤k1)∧Drawn0 w w')
    case atStart=>exact⟨(x7_1),(x8_1),(x9_1),fr,fr,fr,H',⟨Nat.le_refl _⟩,df⟩
    case round=>
     clear H';try clear c1;try clear c2;try clear p2;try clear c4;try clear c4b0;try clear p2
     obtain⟨x7_2,x8_2,x10_2,rfl,rfl,rfl,HA,HK2,⟨m2,rfl⟩⟩:=hrel
     cases gk with
     | zero=>exact absurd HA.out (by simp[ql.l1])
     | succ k2=>
      have H:=HA.out;clear HA
      simp only[ql.l1]at H
      by_cases c5:x10_2 < 4
      ·rw [if_pos c5] at H
       have c5b0:=decide_eq_true c5;clear c5;have H':=am H;clear H;go_wp2
       repeat (go_quiet (fail);try go_wp2)
       go_loopg [7,8,11] k2 (fun kq v7 v8 v11 w'=>∃ (x7_3:Int) (x8_3:Int) (x11_3:Int),v7=.int .i64 x7_3∧v8=.int .i64 x8_3∧v11=.int .i64 x11_3∧qa (ql.l2 kq a0 l1 l2 x7_3 x8_3 x9_1 x10_2 x11_3=some r)∧qa (kq≤k2)∧Drawn0 w w')
       case atStart=>exact⟨(x7_2),(x8_2),(x10_2),fr,fr,fr,H',⟨Nat.le_refl _⟩,df⟩
       case round=>
        clear H';try clear c1;try clear c2;try clear p2;try clear c4;try clear c4b0;try clear c5;try clear c5b0;try clear p2
        obtain⟨x7_3,x8_3,x11_3,rfl,rfl,rfl,HA,HK3,⟨m3,rfl⟩⟩:=hrel
        cases gk with
        | zero=>exact absurd HA.out (by simp[ql.l2])
        | succ k3=>
         have H:=HA.out;clear HA
         simp only[ql.l2]at H
         by_cases c6:x11_3 < 4
         ·rw[if_pos c6]at H
          have c6b0:=decide_eq_true c6;clear c6;replace H:=ifn H;obtain⟨c7,H⟩:=H;have c7b0:=decide_eq_true c7;clear c7;replace H:=ifn H;obtain⟨c8,H⟩:=H;have c8b0:=decide_eq_true c8;clear c8;replace H:=ifn H;obtain⟨c9,H⟩:=H
          have c9b0:=decide_eq_true c9;clear c9;replace H:=ifn H;obtain⟨c10,H⟩:=H;have c10b0:=decide_eq_true c10;clear c10;replace H:=ifm H;obtain⟨c11,H⟩:=H;have c11b0:=beq_eq_false_iff_ne.mpr c11;have c11b1:=bne_iff_ne.mpr c11
          replace H:=ifn H;obtain⟨c12,H⟩:=H;have c12b0:=decide_eq_true c12;clear c12;replace H:=ifn H;obtain⟨c13,H⟩:=H;have c13b0:=decide_eq_true c13;clear c13;replace H:=ifn H;obtain⟨c14,H⟩:=H;have c14b0:=decide_eq_true c14
          clear c14;replace H:=ifn H;obtain⟨c15,H⟩:=H;have c15b0:=decide_eq_true c15;clear c15;have H':=am H;clear H
          have p752:0≤(x8_3:Int):=od
          have q752:x8_3 < (l1.length:Int):=od
          obtain⟨ad752,e752,hx752_0⟩:=Kd.at_int HR1.out x8_3 p752 q752
          cases e752;replace p752:=eq_true p752;replace q752:=eq_true q752
          have p753:0≤(x9_1:Int):=od
          have q753:x9_1 < (l2.length:Int):=od
          obtain⟨ad753,e753,hx753_0⟩:=Kd.at_int HR2.out x9_1 p753 q753
          cases e753;replace p753:=eq_true p753;replace q753:=eq_true q753
          have p754:0≤(x10_2:Int):=od
          have q754:x10_2 < (l2.length:Int):=od
          obtain⟨ad754,e754,hx754_0⟩:=Kd.at_int HR2.out x10_2 p754 q754
          obtain rfl:ad753=ad754:=(by injection e754)
          replace p754:=eq_true p754;replace q754:=eq_true q754
          have p755:0≤(x11_3:Int):=od
          have q755:x11_3 < (l2.length:Int):=od
          obtain⟨ad755,e755,hx755_0⟩:=Kd.at_int HR2.out x11_3 p755 q755
          obtain rfl:ad753=ad755:=(by injection e755)
          replace p755:=eq_true p755;replace q755:=eq_true q755;go_wp2
          repeat (go_quiet (fail);try go_wp2)
          go_roundg k3
          case measure=>have:=HK1.out;have:=HK2.out;have:=HK3.out;omega
          case rel=>exact⟨(Int.tmod (wrap64 (x7_3+(wrap64 ((Int.tmod (wrap64 ((Int.tmod (wrap64 ((rd l1 x8_3)*(rd l2 x9_1))) a0)*(rd l2 x10_2))) a0)*(rd l2 x11_3))))) a0),(wrap64 (x8_3+1)),(wrap64 (x11_3+1)),fr,fr,fr,H',⟨by have:=HK1.out;have:=HK2.out;have:=HK3.out;omega⟩,df⟩
         ·rw[if_neg c6]at H
          have c6b0:=decide_eq_false c6;clear c6;have H':=am H;clear H;go_wp2
          repeat (go_quiet (fail);try go_wp2)
          go_roundg k3
          case measure=>have:=HK1.out;have:=HK2.out;have:=HK3.out;omega
          case rel=>exact⟨(x7_3),(x8_3),(wrap64 (x10_2+1)),fr,fr,fr,H',⟨by have:=HK1.out;have:=HK2.out;have:=HK3.out;omega⟩,df⟩
      ·rw[if_neg c5]at H
       have c5b0:=decide_eq_false c5;clear c5;have H':=am H;clear H;go_wp2
       repeat (go_quiet (fail);try go_wp2)
       go_roundg k2
       case measure=>have:=HK1.out;have:=HK2.out;omega
       case rel=>exact⟨(x7_2),(x8_2),(wrap64 (x9_1+1)),fr,fr,fr,H',⟨by have:=HK1.out;have:=HK2.out;omega⟩,df⟩
   ·rw[if_neg c4]at H
    have c4b0:=decide_eq_false c4;clear c4;obtain rfl:=Option.some.inj H;go_wp2
    repeat (go_quiet (fail);try go_wp2)
    go_ret
    exact⟨fr,df⟩
def jm.l0 :Nat→List Int→List Int→Int→Option (Bool)
 | 0,_,_,_=>none
 | k+1,x0,x1,x5=>if x5 < (x0.length:Int) then (if 0≤x5 then (if x5 < (x1.length:Int) then (if (rd x0 x5)=(rd x1 x5) then (jm.l0 k x0 x1 (wrap64 (x5+1))) else (some false)) else (none)) else (none)) else (some true)
def jm.f (k:Nat) (l0:List Int) (l1:List Int):Option (Bool):=jm.l0 k l0 l1 0
theorem jm.mono_l :∀ k,(∀ y0 y1 y2,LeO (jm.l0 k y0 y1 y2) (jm.l0 (k+1) y0 y1 y2))
 | 0=>fun _ _ _ r h=>by simp[jm.l0]at h
 | k+1=>by
  have ih0:=jm.mono_l k
  ·intro y0 y1 y2
   unfold jm.l0
   repeat' first | (with_reducible first | apply ih0 | exact LeO.refl _ | exact LeO.none _ | refine LeO.ite ?_ ?_ | refine LeO.bind ?_ (fun _=>?_)) | (first | apply ih0 | exact LeO.none _ | refine LeO.ite ?_ ?_ | refine LeO.bind ?_ (fun _=>?_))
theorem jm.mono :∀ a0 a1 k,LeO (jm.f k a0 a1) (jm.f (k+1) a0 a1):=by
 intro a0 a1 k
 have ih0:=jm.mono_l k
 unfold jm.f
 repeat' first | (with_reducible first | apply ih0 | exact LeO.refl _ | exact LeO.none _ | refine LeO.ite ?_ ?_ | refine LeO.bind ?_ (fun _=>?_)) | (first | apply ih0 | exact LeO.none _ | refine LeO.ite ?_ ?_ | refine LeO.bind ?_ (fun _=>?_))
theorem jm.calls (k:Nat) (A0:Option Addr) (c0:Nat) (l0:List Int) (A1:Option Addr) (c1:Nat) (l1:List Int) (r:Bool) (w:World) (hr0:Kd.C (Kd.int .i64) w A0 l0.length l0) (hc0:l0.length≤c0) (hr1:Kd.C (Kd.int .i64) w A1 l1.length l1) (hc1:l1.length≤c1) (h:jm.f k l0 l1=some r):
  Calls Try.prog 151 #[.slice A0 l0.length c0,.slice A1 l1.length c1] w fun e w'=>e=.returned (.bool r)∧Drawn0 w w':=by
 have HR0:=am hr0
 have HC0:=am hc0
 clear hr0 hc0
 have HR1:=am hr1
 have HC1:=am hc1
 clear hr1 hc1
 have H:(jm.l0 k l0 l1 0)=some r:=h
 clear h;have H':=am H;clear H
 go_enter Try.func151,Try.ntmps151
 go_wp2
 repeat (go_quiet (fail);try go_wp2)
 go_loopg [5] k (fun kq v5 w'=>∃ (x5_1:Int),v5=.int .i64 x5_1∧qa (jm.l0 kq l0 l1 x5_1=some r)∧qa (kq≤k)∧Drawn0 w w')
 case atStart=>exact⟨(0),fr,H',⟨Nat.le_refl _⟩,df⟩
 case round=>
  clear H';try clear c1;try clear p2
  obtain⟨x5_1,rfl,HA,HK1,⟨m1,rfl⟩⟩:=hrel
  cases gk with
  | zero=>exact absurd HA.out (by simp[jm.l0])
  | succ k1=>
   have H:=HA.out;clear HA
   simp only[jm.l0]at H
   by_cases c3:x5_1 < (l0.length:Int)
   ·rw[if_pos c3]at H
    have c3b0:=decide_eq_true c3;clear c3;replace H:=ifn H;obtain⟨c4,H⟩:=H;have c4b0:=decide_eq_true c4;clear c4;replace H:=ifn H;obtain⟨c5,H⟩:=H;have c5b0:=decide_eq_true c5;clear c5
    by_cases c6:(rd l0 x5_1)=(rd l1 x5_1)
    ·rw[if_pos c6]at H
     have c6b0:=beq_iff_eq.mpr c6;have c6b1:=bne_eq_false_iff_eq.mpr c6;clear c6;have H':=am H;clear H
     have p756:0≤(x5_1:Int):=od
     have q756:x5_1 < (l0.length:Int):=od
     obtain⟨ad756,e756,hx756_0⟩:=Kd.at_int HR0.out x5_1 p756 q756
     cases e756;replace p756:=eq_true p756;replace q756:=eq_true q756
     have p757:0≤(x5_1:Int):=od
     have q757:x5_1 < (l1.length:Int):=od
     obtain⟨ad757,e757,hx757_0⟩:=Kd.at_int HR1.out x5_1 p757 q757
     cases e757;replace p757:=eq_true p757;replace q757:=eq_true q757;go_wp2
     repeat (go_quiet (fail);try go_wp2)
     go_roundg k1
     case measure=>have:=HK1.out;omega
     case rel=>exact⟨(wrap64 (x5_1+1)),fr,H',⟨by have:=HK1.out;omega⟩,df⟩
    ·rw[if_neg c6]at H
     have c6b0:=beq_eq_false_iff_ne.mpr c6;have c6b1:=bne_iff_ne.mpr c6;obtain rfl:=Option.some.inj H
     have p756:0≤(x5_1:Int):=od
     have q756:x5_1 < (l0.length:Int):=od
     obtain⟨ad756,e756,hx756_0⟩:=Kd.at_int HR0.out x5_1 p756 q756
     cases e756;replace p756:=eq_true p756;replace q756:=eq_true q756
     have p757:0≤(x5_1:Int):=od
     have q757:x5_1 < (l1.length:Int):=od
     obtain⟨ad757,e757,hx757_0⟩:=Kd.at_int HR1.out x5_1 p757 q757
     cases e757;replace p757:=eq_true p757;replace q757:=eq_true q757;go_wp2
     repeat (go_quiet (fail);try go_wp2)
     go_ret
     exact⟨fr,df⟩
   ·rw[if_neg c3]at H
    have c3b0:=decide_eq_false c3;clear c3;obtain rfl:=Option.some.inj H;go_wp2
    repeat (go_quiet (fail);try go_wp2)
    go_ret
    exact⟨fr,df⟩
theorem qie (w:World) (e:Nat) (base:Nat) (hb:base≤w.heap.size):(w.alloc (.cells #[] e)).ownsRow base e 1 (.slice (some ⟨w.heap.size,0,none⟩) 0 0) 0 []:=
 ⟨rfl,.inr ⟨w.heap.size,0,#[],rfl,hb,(by show (w.heap.push _)[w.heap.size]? =_;simp),Nat.le_refl _,Nat.zero_le _,rfl,rfl⟩⟩
theorem qc7 {w:World} {A:Option Addr} {n:Nat} {rows:List (List Int)} (h:Kd.C (Kd.slice 3 (Kd.int .i64)) w A n rows) (j:Nat) (hj:j < rows.length):∃ ad B c,A=some ad∧w.cell? (ad.add j)=some (.slice B (rows[j]).length c)∧(rows[j]).length≤c∧Kd.C (Kd.int .i64) w B (rows[j]).length rows[j]:=by
 obtain⟨hl,hm,hr⟩:=h
 obtain⟨ad,rfl,hc⟩:=hr (by omega)
 obtain⟨cs,_,⟨B,c,rfl,h1,h2⟩,hcell⟩:=hc j _ (List.getElem?_eq_getElem hj)
 refine⟨ad,B,c,rfl,?_,h1,h2⟩
 have:=hcell 0 (.slice B (rows[j]).length c) rfl
 simpa [Kd.slice] using this
theorem Jg {w1 w2:World} {g o:Nat} {v:Value} (hlt:g < w1.heap.size) (hb:Below w1.heap.size w1 w2) (hx:w1.cell? ⟨g,o,none⟩=some v):w2.cell? ⟨g,o,none⟩=some v:=
 (World.cell?_of_block (a:=⟨g,o,none⟩) (hb.block g hlt)).trans hx
def lowB (p x:Int):Bool:=decide (0≤x) && decide (x≤wrap64 (p - 1))
theorem qnr (p x:Int):zq.f x 0 (wrap64 (p - 1))=some (lowB p x):=by
 unfold zq.f lowB
 by_cases h:x≥0
 ·have h':0≤x:=h
  simp[h,h']
 ·have h':¬ 0≤x:=h
  simp[h,h']
def j5.f (k:Nat) (a0:Int) (l1:List Int):Option Bool:=(jd.f a0).bind fun t=>
 if t=true then (if l1.length=8 then (if l1.all (lowB a0)=true then (qd.f k a0 [l1.take 4,l1.drop 4] 4).bind fun r=>
  if r.1.length=2 then (if (r.1.getD 0 []).length < 1000000∧(r.1.getD 1 []).length < 1000000 then jm.f k (r.1.getD 0 []++r.1.getD 1 []) l1 else none) else some false else some false) else some false) else some false
theorem j5.mono :∀ a0 a1 k,LeO (j5.f k a0 a1) (j5.f (k+1) a0 a1):=by
 intro a0 a1 k
 unfold j5.f
 refine LeO.bind (LeO.refl _) fun _=>LeO.ite (LeO.ite (LeO.ite (LeO.bind (qd.mono _ _ _ _) fun _=>LeO.ite (LeO.ite (jm.mono _ _ _) (LeO.refl _)) (LeO.refl _)) (LeO.refl _)) (LeO.refl _)) (LeO.refl _)
theorem lit2_C {w:World} {A B:Option Addr} {ca cb:Nat} {x y:List Int} (hx:Kd.C (Kd.int .i64) w A x.length x) (hca:x.length≤ca) (hy:Kd.C (Kd.int .i64) w B y.length y) (hcb:y.length≤cb):
  Kd.C (Kd.slice 3 (Kd.int .i64)) (w.alloc (.cells #[.slice A x.length ca,.slice B y.length cb] 23)) (some ⟨w.heap.size,0,none⟩) 2 [x,y]:=by
 refine⟨rfl,by omega,fun _=>⟨⟨w.heap.size,0,none⟩,rfl,fun j p hj=>?_⟩⟩
 have hb:=qeu w (.cells #[.slice A x.length ca,.slice B y.length cb] 23)
 match j,hj with
 | 0,hj=>
  simp at hj
  subst hj
  refine⟨[.slice A x.length ca],rfl,⟨A,ca,rfl,hca,Kd.C_alloc hx _⟩,fun i u hu=>?_⟩
  match i,hu with
  | 0,hu=>simp at hu;subst hu;rw[Zv];exact(qf hb _).trans rfl
 | 1,hj=>
  simp at hj
  subst hj
  refine⟨[.slice B y.length cb],rfl,⟨B,cb,rfl,hcb,Kd.C_alloc hy _⟩,fun i u hu=>?_⟩
  match i,hu with
  | 0,hu=>simp at hu;subst hu;rw[Zv];exact(qf hb _).trans rfl
theorem j5.calls (k:Nat) (a0:Int) (A1:Option Addr) (c1:Nat) (l1:List Int) (r:Bool) (w:World) (hr1:Kd.C (Kd.int .i64) w A1 l1.length l1) (hc1:l1.length≤c1) (h:j5.f k a0 l1=some r):
  Calls Try.prog 95 #[.int .i64 a0,.slice A1 l1.length c1] w fun e w'=>e=.returned (.bool r)∧Below w.heap.size w w':=by
 obtain⟨t,hprime,h'⟩:=Option.bind_eq_some_iff.1 h
 clear h
 have HPR:=Lib.hid hprime
 have HR1:=Lib.hid hr1
 have HC1:=Lib.hid hc1
 have H:=Lib.hid h'
 clear hprime hr1 hc1 h'
 cases t with
 | false=>
  obtain rfl:r=false:=by have h:=H.out;simp at h;exact h
  go_enter Try.func95,Try.ntmps95
  go_wp2_with fail
  refine(jd.calls a0 false _ HPR.out).mono ?_
  rintro e w1 ⟨rfl,⟨q,rfl⟩⟩
  go_wp2;go_ret
  exact⟨rfl,qh (Below.refl _ _) q⟩
 | true =>
  by_cases hl:l1.length=8
  ·have HL:=Lib.hid hl
   go_enter Try.func95,Try.ntmps95
   rw[hl]
   have h8:((8:Int) !=8)=false:=rfl
   clear hl
   go_wp2_with fail
   refine(jd.calls a0 true _ HPR.out).mono ?_
   rintro e w1 ⟨rfl,⟨q,rfl⟩⟩
   go_wp2_with fail
   have hb0:Below w.heap.size w (w.drewN q):=qh (Below.refl _ _) q
   generalize w.drewN q=w1 at hb0 ⊢
   go_loopw [5] (fun i w'=>∃ j:Nat,j≤8∧i=.int .i64 j∧(l1.take j).all (lowB a0)=true∧Below w.heap.size w w') (fun i _=>8 - (intOf i).toNat)
   case atStart=>exact⟨0,by omega,rfl,by simp,hb0⟩
   case round=>
    clear hb0
    obtain⟨j,hj,rfl,hall,hB⟩:=hrel
    have HB:=Lib.hid hB
    have HALL:=Lib.hid hall
    have HJ:=Lib.hid hj
    clear hB hall hj
    by_cases hlt:j < 8
    ·obtain⟨ad,e,hx⟩:=Kd.at_int (Kd.C_below HR1.out HB.out) (j:Int) (by omega) (by have:=HL.out;omega)
     subst e
     simp only[Int.toNat_natCast]at hx
     have hd1:decide ((j:Int) < 8)=true:=decide_eq_true (by omega)
     have p1:(0≤(j:Int))=True:=eq_true (by omega)
     have q1:((j:Int) < 8)=True:=eq_true (by omega)
     have hlow:=qnr a0 (rd l1 (j:Int))
     have HLT:=Lib.hid hlt
     cases hv:lowB a0 (rd l1 (j:Int)) with
     | false=>
      rw[hv]at hlow
      have HLOW:=Lib.hid hlow
      have hr:r=false:=by
       have h:=H.out
       have ha:l1.all (lowB a0)=false:=by
        rw[List.all_eq_false]
        exact⟨rd l1 (j:Int),by rw[rd,List.getD_eq_getElem?_getD,Int.toNat_natCast,List.getElem?_eq_getElem (by have:=HL.out;omega)];exact List.getElem_mem _,by simp[hv]⟩
       rw[if_pos trivial,if_pos HL.out,if_neg (by simp[ha])]at h
       exact(Option.some.inj h).symm
      subst hr;clear hlt hv hlow
      go_wp2_with fail
      refine(zq.calls _ _ _ _ _ HLOW.out).mono ?_
      rintro e w2 ⟨rfl,⟨q,rfl⟩⟩
      go_wp2;go_ret
      exact⟨rfl,qh HB.out q⟩
     | true=>
      rw[hv]at hlow
      have HLOW:=Lib.hid hlow
      have HALL2:Hid ((l1.take (j+1)).all (lowB a0)=true):=Lib.hid (by
       have h9:j < l1.length:=by have:=HL.out;omega
       rw[List.take_add_one,List.all_append,HALL.out,List.getElem?_eq_getElem h9]
       have e:rd l1 (j:Int)=l1[j]:=by simp[rd,List.getD_eq_getElem?_getD,h9]
       rw[e]at hv
       simp[hv])
      clear hlt hv hlow
      go_wp2_with fail
      refine(zq.calls _ _ _ _ _ HLOW.out).mono ?_
      rintro e w2 ⟨rfl,⟨q,rfl⟩⟩
      go_wp2_with fail
      have hw1:wrap64 ((j:Int)+1)=((j+1:Nat):Int):=by have:=HLT.out;unfold wrap64;omega
      go_roundw
      case measure=>(try rw[hw1]);simp only[intOf];have:=HLT.out;omega
      case rel=>exact⟨j+1,by have:=HLT.out;omega,by first | rw[hw1] | go_num,HALL2.out,qh HB.out q⟩
    ·have hje:j=8:=by have:=HJ.out;omega
     subst hje
     have hd1:decide (((8:Nat):Int) < 8)=false:=rfl
     have HALL3:Hid (l1.all (lowB a0)=true):=Lib.hid (by have h:=HALL.out;rwa [List.take_of_length_le (by have:=HL.out;omega)]at h)
     clear hlt HALL
     obtain⟨i0,hi0,_,hsz,_⟩:=info_parts Q1
     obtain⟨htk,htr,htc⟩:=qco (P:=Try.prog) (Value.int .i64) 0 23 3 .i64 Try.underlying23 hi0 hsz A1 c1 l1 4 (by omega) (by have:=HL.out;omega) HC1.out
     obtain⟨A2,hdk,hdr,hdc⟩:=qcm (P:=Try.prog) (Value.int .i64) 0 23 3 .i64 Try.underlying23 hi0 hsz A1 c1 l1 4 (by omega) (by have:=HL.out;omega) HC1.out
     have e4:(4:Int).toNat=4:=rfl
     rw[e4]at htk htr htc hdk hdr hdc
     have hC1:=Kd.C_below HR1.out HB.out
     have HX:Hid (Kd.C (Kd.int .i64) wr A1 (l1.take 4).length (l1.take 4)):=Lib.hid (Kd.C_of_reads (h1:=fun _=>rfl) (htr wr (Kd.reads_of_C hC1)))
     have HY:Hid (Kd.C (Kd.int .i64) wr A2 (l1.drop 4).length (l1.drop 4)):=Lib.hid (Kd.C_of_reads (h1:=fun _=>rfl) (hdr wr (Kd.reads_of_C hC1)))
     obtain⟨X,hX⟩:∃ X,l1.take 4=X:=⟨_,rfl⟩
     obtain⟨Y,hY⟩:∃ Y,l1.drop 4=Y:=⟨_,rfl⟩
     rw[hX]at HX htk htc
     rw[hY]at HY hdk hdc
     rw[HL.out]at htk hdk
     have HTC:=Lib.hid htc
     have HDC:=Lib.hid hdc
     have HEX:=Lib.hid hX
     have HEY:=Lib.hid hY
     have H2:Hid (((qd.f k a0 [X,Y] 4).bind fun r=>
       if r.1.length=2 then (if (r.1.getD 0 []).length < 1000000∧(r.1.getD 1 []).length < 1000000 then jm.f k (r.1.getD 0 []++r.1.getD 1 []) l1 else none) else some false)=some r):=Lib.hid (by
      have h:=H.out
      rw[if_pos trivial,if_pos HL.out,if_pos HALL3.out,hX,hY]at h
      exact h)
     clear hX hY htr hdr htc hdc hC1 e4 hi0 hsz H
     obtain⟨⟨L,hs⟩,hred,h2'⟩:=Option.bind_eq_some_iff.1 H2.out
     have HRED:=Lib.hid hred
     have H3:=Lib.hid h2'
     clear hred h2' H2
     go_wp2_with fail
     go_region_held3 (fun w'=>True) (trivial)
      (first | ((go_at_call 150;refine(qd.calls k a0 _ _ _ [X,Y] 4 L hs _ (Kd.V_mk (Nat.le_refl 2) (Kd.C_F (Kd.heap_slice 3 (Kd.heap_int .i64)) (lit2_C (w:=wr.drew) (Kd.C_drew HX.out) HTC.out (Kd.C_drew HY.out) HDC.out))) HRED.out).mono ?_;rintro e w2 ⟨v0,v1,rfl,ho0,ho1,hb⟩)))
     have HB2:Hid (Below w.heap.size w w2):=Lib.hid (((HB.out.drew).alloc HB.out.size _).trans (hb.mono (by have:=HB.out.size;simp;omega)))
     by_cases h2:L.length=2
     ·obtain⟨x,y,rfl⟩:∃ x y,L=[x,y]:=by
       match L,h2 with
       | [x,y],_=>exact⟨x,y,rfl⟩
      obtain⟨g,c0,rfl,_,hgl,_⟩:=Kd.N_form ho0 (by simp)
      obtain⟨ad,B0,k0,e0,hx0,hb0,hC0⟩:=qc7 (Kd.F_now (Kd.N_F ho0)) 0 (by simp)
      obtain⟨_,B1,k1,e1,hx1,hb1,hC1⟩:=qc7 (Kd.F_now (Kd.N_F ho0)) 1 (by simp)
      injection e0 with e0
      subst e0
      injection e1 with e1
      subst e1
      rw[Zv]at hx0 hx1
      simp only[List.getElem_cons_zero,List.getElem_cons_succ]at hx0 hb0 hC0 hx1 hb1 hC1
      have HGL:=Lib.hid hgl
      have HC0:=Lib.hid hC0
      have HCY:=Lib.hid hC1
      obtain⟨xy,hxy⟩:∃ xy,([]++x++y:List Int)=xy:=⟨_,rfl⟩
      have HBN:Hid (x.length < 1000000∧y.length < 1000000∧jm.f k xy l1=some r):=Lib.hid (by
       have h:=H3.out
       rw[← hxy]
       simp only[List.length_cons,List.length_nil,if_true,List.getD_cons_zero,List.getD_cons_succ]at h
       split at h
       ·next hh=>exact⟨hh.1,hh.2,h⟩
       ·simp at h)
      have HXY:=Lib.hid hxy
      have HS7:Hid (∀ (A0:Option Addr) (c0:Nat) (W:World),Kd.C (Kd.int .i64) W A0 xy.length xy→xy.length≤c0→Below w.heap.size w W→Calls Try.prog 151 #[.slice A0 xy.length c0,.slice A1 8 c1] W fun e w'=>e=.returned (.bool r)∧Drawn0 W w'):=Lib.hid (fun A0 c0 W h0 h1 hb=>by
       have h:=jm.calls k A0 c0 xy A1 c1 l1 r W h0 h1 (Kd.C_below HR1.out hb) HC1.out HBN.out.2.2
       rw[HL.out]at h
       exact h)
      clear H3 hC0 hC1 hb0 hb1 h2 hgl ho0 ho1 hb htk hdk hxy
      go_wp2_with fail
      go_region_held3 (fun w'=>w'.cell? ⟨g,0,none⟩=some (.slice B0 x.length k0)∧w'.cell? ⟨g,1,none⟩=some (.slice B1 y.length k1)) (first | exact⟨Jg HGL.out hb3 hx0,Jg HGL.out hb3 hx1⟩ | exact⟨Jg HGL.out hb2 hx0,Jg HGL.out hb2 hx1⟩ | exact⟨Jg HGL.out hb1 hx0,Jg HGL.out hb1 hx1⟩ | go_keep)
       (first
        | ((refine Kd.R_append_rows_step (Kd.int .i64) (Rr:=fun x c=>c=[Value.int .i64 x]) (w0:=w2) w2.heap.size (by rfl) (.tmp 42) (.tmp 45) 23 3 (.int .i64 0) 8 (by rfl) Try.underlying23 Q1 rfl (by decide) (by decide) (.slice (some ⟨w2.heap.size,0,none⟩) 0 0) [] x B0 x.length k0 (fun _=>True) (fun _=>False) (by rfl) (by rfl) ⟨fun _ _=>trivial,[],qie _ 3 _ (Nat.le_refl _),Reps.none _ _⟩ (Kd.C_alloc (Kd.C_drew HC0.out) _) (fun _ _ h=>h) (fun _ h=>h.elim) (fun _ _=>trivial) (((Below.refl _ _).drew).alloc (Nat.le_refl _) _) (by simp) (by have:=HBN.out.1;simp;omega) ?_;intro v2 w3 hown1 hb1 hg1 hat1))
        | ((refine Kd.R_append_rows_step (Kd.int .i64) (Rr:=fun x c=>c=[Value.int .i64 x]) (w0:=w2) w2.heap.size (by rfl) (.tmp 46) (.tmp 49) 23 3 (.int .i64 0) 8 (by rfl) Try.underlying23 Q1 rfl (by decide) (by decide) v2 ([]++x) y B1 y.length k1 (fun _=>True) (fun _=>False) (by rfl) (by rfl) hown1 (Kd.C_below HCY.out hb1) (fun _ _ h=>h) (fun _ h=>h.elim) (fun _ _=>trivial) hb1 hb1.size (by have:=HBN.out.1;have:=HBN.out.2.1;simp;omega) ?_;intro v3 w4 hown2 hb2 hg2 hat2;rw[HXY.out]at hown2;obtain⟨A3,c3,e3⟩:=Kd.R_slice hown2;subst e3))
        | ((go_at_call 151;refine(HS7.out _ _ _ (Kd.R_reads' hown2).2.2 (Kd.R_reads' hown2).2.1 (HB2.out.trans (hb2.mono HB2.out.size))).mono ?_;rintro e w5 ⟨rfl,⟨nd,rfl⟩⟩;have hb3:=qh hb2 nd)))
      go_wp2;go_ret
      exact⟨rfl,HB2.out.trans (hb3.mono HB2.out.size)⟩
     ·obtain⟨A0,c0,rfl⟩:=Kd.N_slice ho0
      obtain rfl:r=false:=by
       have h:=H3.out
       rw[if_neg h2]at h
       exact(Option.some.inj h).symm
      have h3:((L.length:Int) == 2)=false:=beq_eq_false_iff_ne.mpr (by omega)
      clear ho0 ho1 hb H3 h2 htk hdk
      go_wp2_with fail
      go_quiet (fail)
      go_wp2;go_ret
      exact⟨rfl,qh HB2.out nq⟩
  ·obtain rfl:r=false:=by have h:=H.out;rw[if_neg hl]at h;simp at h;exact h
   have h8:((l1.length:Int) !=8)=true:=bne_iff_ne.mpr (by omega)
   have h9:((l1.length:Int) == 8)=false:=beq_eq_false_iff_ne.mpr (by omega)
   clear hl
   go_enter Try.func95,Try.ntmps95
   go_wp2_with fail
   refine(jd.calls a0 true _ HPR.out).mono ?_
   rintro e w1 ⟨rfl,⟨q,rfl⟩⟩
   go_wp2;go_ret
   exact⟨rfl,qh (Below.refl _ _) q⟩
end Go.Proofs.Ytmgbpmihbljngaa.PA
