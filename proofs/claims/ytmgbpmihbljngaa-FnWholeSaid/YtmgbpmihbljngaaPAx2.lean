-- Written by xprint.py, a program of this claim's own (over the kit's print.py)
import Derived.Test.YtmgbpmihbljngaaPAx1
namespace Go.Proofs.Ytmgbpmihbljngaa.PA
set_option maxHeartbeats 8000000
set_option maxRecDepth 100000
open Go.RowKit Go.Proofs.YtmgbpmihbljngaaW.PrintWords Go.Proofs.YtmgbpmihbljngaaW.PrintLast Go.Proofs.YtmgbpmihbljngaaW.PrintMore
attribute [local go_sem] Qg Qj Qp Qo j4 j3 Qh Qf
set_option linter.unusedVariables false
set_option linter.unusedSimpArgs false
def j7.f (k:Nat) (a0:Int) (l1:List Int) (l2:List Int):Option (Int×Bool):=(ja.f a0 l1 20).bind fun t113=>(if t113=true then ((Zi.f a0 l2).bind fun t114=>(if t114=true then ((qp.f k a0 l1 l2).bind fun t115=>(some (t115,true))) else (some (0,false)))) else (some (0,false)))
theorem j7.mono :∀ a0 a1 a2 k,LeO (j7.f k a0 a1 a2) (j7.f (k+1) a0 a1 a2):=by
 intro a0 a1 a2 k
 unfold j7.f
 repeat' first | (with_reducible first | apply qp.mono | exact LeO.refl _ | exact LeO.none _ | refine LeO.ite ?_ ?_ | refine LeO.bind ?_ (fun _=>?_)) | (first | apply qp.mono | exact LeO.none _ | refine LeO.ite ?_ ?_ | refine LeO.bind ?_ (fun _=>?_))
theorem j7.calls (k:Nat) (a0:Int) (A1:Option Addr) (c1:Nat) (l1:List Int) (A2:Option Addr) (c2:Nat) (l2:List Int) (r1:Int) (r2:Bool) (w:World) (hr1:Kd.C (Kd.int .i64) w A1 l1.length l1) (hc1:l1.length≤c1) (hr2:Kd.C (Kd.int .i64) w A2 l2.length l2) (hc2:l2.length≤c2) (h:j7.f k a0 l1 l2=some (r1,r2)):
  Calls Try.prog 41 #[.int .i64 a0,.slice A1 l1.length c1,.slice A2 l2.length c2] w fun e w'=>e=.returned (.tuple #[.int .i64 r1,.bool r2])∧Below w.heap.size w w':=by
 have HR1:=am hr1
 have HC1:=am hc1
 clear hr1 hc1
 have HR2:=am hr2
 have HC2:=am hc2
 clear hr2 hc2
 have HB:=am (Below.refl w.heap.size w)
 have H:((ja.f a0 l1 20).bind fun t113=>(if t113=true then ((Zi.f a0 l2).bind fun t114=>(if t114=true then ((qp.f k a0 l1 l2).bind fun t115=>(some (t115,true))) else (some (0,false)))) else (some (0,false))))=some (r1,r2):=h
 clear h;replace H:=bs H;obtain⟨t113,A4,H⟩:=H
 by_cases c5:t113=true
 ·subst c5
  rw[if_pos rfl]at H
  replace H:=bs H;obtain⟨t114,A6,H⟩:=H
  by_cases c7:t114=true
  ·subst c7
   rw[if_pos rfl]at H
   replace H:=bs H;obtain⟨t115,A8,H⟩:=H
   simp only[Option.some.injEq,Prod.mk.injEq]at H
   obtain⟨rfl,rfl⟩:=H
   go_enter Try.func41,Try.ntmps41
   go_wp2_with (first | ((with_reducible refine qe (f:=52) rfl ?_);refine gl 10 Try.func52 #[.int .i64 a0,.slice A1 l1.length c1,.int .i64 20] ?_;(with_reducible refine(ja.calls a0 _ _ l1 20 true _ ?_ ?_ A4.out).mono ?_);exact wC HR1;exact HC1.out;rintro e w9 ⟨rfl,hb⟩;refine⟨_,rfl,?_⟩;replace HB:=bq HB hb;(try clear hb)) | (go_at_call 83;(with_reducible refine(Zi.calls a0 _ _ l2 true _ ?_ ?_ A6.out).mono ?_);exact Kd.C_below HR2.out (bw HB);exact HC2.out;rintro e w10 ⟨rfl,hb⟩;replace HB:=bq HB hb;(try clear hb)) | ((with_reducible refine qe (f:=55) rfl ?_);refine gl 21 Try.func55 #[.int .i64 a0,.slice A1 l1.length c1,.slice A2 l2.length c2] ?_;(with_reducible refine(qp.calls k a0 _ _ l1 _ _ l2 t115 _ ?_ ?_ ?_ ?_ A8.out).mono ?_);exact Kd.C_below HR1.out (bw HB);exact HC1.out;exact Kd.C_below HR2.out (bw HB);exact HC2.out;rintro e w' ⟨rfl,⟨nd,rfl⟩⟩;refine⟨_,rfl,?_⟩))
   go_ret2
   exact⟨fq,bw HB⟩
  ·replace c7:=Bool.eq_false_iff.mpr c7
   subst c7
   rw[if_neg (show ¬ (false=true) by decide)]at H
   simp only[Option.some.injEq,Prod.mk.injEq]at H
   obtain⟨rfl,rfl⟩:=H
   go_enter Try.func41,Try.ntmps41
   go_wp2_with (first | ((with_reducible refine qe (f:=52) rfl ?_);refine gl 10 Try.func52 #[.int .i64 a0,.slice A1 l1.length c1,.int .i64 20] ?_;(with_reducible refine(ja.calls a0 _ _ l1 20 true _ ?_ ?_ A4.out).mono ?_);exact wC HR1;exact HC1.out;rintro e w11 ⟨rfl,hb⟩;refine⟨_,rfl,?_⟩;replace HB:=bq HB hb;(try clear hb)) | (go_at_call 83;(with_reducible refine(Zi.calls a0 _ _ l2 false _ ?_ ?_ A6.out).mono ?_);exact Kd.C_below HR2.out (bw HB);exact HC2.out;rintro e w12 ⟨rfl,hb⟩;replace HB:=bq HB hb;(try clear hb)))
   go_ret2
   exact⟨fq,bw HB⟩
 ·replace c5:=Bool.eq_false_iff.mpr c5
  subst c5
  rw[if_neg (show ¬ (false=true) by decide)]at H
  simp only[Option.some.injEq,Prod.mk.injEq]at H
  obtain⟨rfl,rfl⟩:=H
  go_enter Try.func41,Try.ntmps41
  go_wp2_with (first | ((with_reducible refine qe (f:=52) rfl ?_);refine gl 10 Try.func52 #[.int .i64 a0,.slice A1 l1.length c1,.int .i64 20] ?_;(with_reducible refine(ja.calls a0 _ _ l1 20 false _ ?_ ?_ A4.out).mono ?_);exact wC HR1;exact HC1.out;rintro e w13 ⟨rfl,hb⟩;refine⟨_,rfl,?_⟩;replace HB:=bq HB hb;(try clear hb)))
  go_ret2
  exact⟨fq,bw HB⟩
def jd.f (a0:Int):Option (Bool):=if a0=7 then (some true) else (if a0=11 then (some true) else (if a0=13 then (some true) else (if a0=17 then (some true) else (if a0=19 then (some true) else (if a0=23 then (some true) else (if a0=29 then (some true) else (if a0=31 then (some true) else (some false))))))))
theorem jd.calls (a0:Int) (r:Bool) (w:World) (h:jd.f a0=some r):
  Calls Try.prog 103 #[.int .i64 a0] w fun e w'=>e=.returned (.bool r)∧Drawn0 w w':=by
 have H:(if a0=7 then (some true) else (if a0=11 then (some true) else (if a0=13 then (some true) else (if a0=17 then (some true) else (if a0=19 then (some true) else (if a0=23 then (some true) else (if a0=29 then (some true) else (if a0=31 then (some true) else (some false)))))))))=some r:=h
 clear h
 by_cases c2:a0=7
 ·rw[if_pos c2]at H
  have c2b0:=beq_iff_eq.mpr c2;have c2b1:=bne_eq_false_iff_eq.mpr c2;clear c2;obtain rfl:=Option.some.inj H
  go_enter Try.func103,Try.ntmps103
  go_wp2;go_ret
  exact⟨fr,df⟩
 ·rw [if_neg c2] at H
  have c2b0:=beq_eq_false_iff_ne.mpr c2;have c2b1:=bne_iff_ne.mpr c2
  by_cases c3:a0=11
  ·rw[if_pos c3]at H
   have c3b0:=beq_iff_eq.mpr c3;have c3b1:=bne_eq_false_iff_eq.mpr c3;clear c3;obtain rfl:=Option.some.inj H
   go_enter Try.func103,Try.ntmps103
   go_wp2;go_ret
   exact⟨fr,df⟩
  ·rw [if_neg c3] at H
   have c3b0:=beq_eq_false_iff_ne.mpr c3;have c3b1:=bne_iff_ne.mpr c3
   by_cases c4:a0=13
   ·rw[if_pos c4]at H
    have c4b0:=beq_iff_eq.mpr c4;have c4b1:=bne_eq_false_iff_eq.mpr c4;clear c4;obtain rfl:=Option.some.inj H
    go_enter Try.func103,Try.ntmps103
    go_wp2;go_ret
    exact⟨fr,df⟩
   ·rw [if_neg c4] at H
    have c4b0:=beq_eq_false_iff_ne.mpr c4;have c4b1:=bne_iff_ne.mpr c4
    by_cases c5:a0=17
    ·rw[if_pos c5]at H
     have c5b0:=beq_iff_eq.mpr c5;have c5b1:=bne_eq_false_iff_eq.mpr c5;clear c5;obtain rfl:=Option.some.inj H
     go_enter Try.func103,Try.ntmps103
     go_wp2;go_ret
     exact⟨fr,df⟩
    ·rw [if_neg c5] at H
     have c5b0:=beq_eq_false_iff_ne.mpr c5;have c5b1:=bne_iff_ne.mpr c5
     by_cases c6:a0=19
     ·rw[if_pos c6]at H
      have c6b0:=beq_iff_eq.mpr c6;have c6b1:=bne_eq_false_iff_eq.mpr c6;clear c6;obtain rfl:=Option.some.inj H
      go_enter Try.func103,Try.ntmps103
      go_wp2;go_ret
      exact⟨fr,df⟩
     ·rw [if_neg c6] at H
      have c6b0:=beq_eq_false_iff_ne.mpr c6;have c6b1:=bne_iff_ne.mpr c6
      by_cases c7:a0=23
      ·rw[if_pos c7]at H
       have c7b0:=beq_iff_eq.mpr c7;have c7b1:=bne_eq_false_iff_eq.mpr c7;clear c7;obtain rfl:=Option.some.inj H
       go_enter Try.func103,Try.ntmps103
       go_wp2;go_ret
       exact⟨fr,df⟩
      ·rw[if_neg c7]at H
       have c7b0:=beq_eq_false_iff_ne.mpr c7;have c7b1:=bne_iff_ne.mpr c7
       by_cases c8:a0=29
       ·rw[if_pos c8]at H
        have c8b0:=beq_iff_eq.mpr c8;have c8b1:=bne_eq_false_iff_eq.mpr c8;clear c8;obtain rfl:=Option.some.inj H
        go_enter Try.func103,Try.ntmps103
        go_wp2;go_ret
        exact⟨fr,df⟩
       ·rw[if_neg c8]at H
        have c8b0:=beq_eq_false_iff_ne.mpr c8;have c8b1:=bne_iff_ne.mpr c8
        by_cases c9:a0=31
        ·rw[if_pos c9]at H
         have c9b0:=beq_iff_eq.mpr c9;have c9b1:=bne_eq_false_iff_eq.mpr c9;clear c9;obtain rfl:=Option.some.inj H
         go_enter Try.func103,Try.ntmps103
         go_wp2;go_ret
         exact⟨fr,df⟩
        ·rw[if_neg c9]at H
         have c9b0:=beq_eq_false_iff_ne.mpr c9;have c9b1:=bne_iff_ne.mpr c9;obtain rfl:=Option.some.inj H
         go_enter Try.func103,Try.ntmps103
         go_wp2;go_ret
         exact⟨fr,df⟩
def zb.l0 :Nat→List Int→Int→Option (Bool)
 | 0,_,_=>none
 | k+1,x0,x3=>if x3 < (x0.length:Int) then (if 0≤x3 then (if (rd x0 x3)=0 then (zb.l0 k x0 (wrap64 (x3+1))) else (some false)) else (none)) else (some true)
def zb.f (k:Nat) (l0:List Int):Option (Bool):=zb.l0 k l0 0
theorem zb.mono_l :∀ k,(∀ y0 y1,LeO (zb.l0 k y0 y1) (zb.l0 (k+1) y0 y1))
 | 0=>fun _ _ r h=>by simp[zb.l0]at h
 | k+1=>by
  have ih0:=zb.mono_l k
  ·intro y0 y1
   unfold zb.l0
   repeat' first | (with_reducible first | apply ih0 | exact LeO.refl _ | exact LeO.none _ | refine LeO.ite ?_ ?_ | refine LeO.bind ?_ (fun _=>?_)) | (first | apply ih0 | exact LeO.none _ | refine LeO.ite ?_ ?_ | refine LeO.bind ?_ (fun _=>?_))
theorem zb.mono :∀ a0 k,LeO (zb.f k a0) (zb.f (k+1) a0):=by
 intro a0 k
 have ih0:=zb.mono_l k
 unfold zb.f
 repeat' first | (with_reducible first | apply ih0 | exact LeO.refl _ | exact LeO.none _ | refine LeO.ite ?_ ?_ | refine LeO.bind ?_ (fun _=>?_)) | (first | apply ih0 | exact LeO.none _ | refine LeO.ite ?_ ?_ | refine LeO.bind ?_ (fun _=>?_))
theorem zb.calls (k:Nat) (A0:Option Addr) (c0:Nat) (l0:List Int) (r:Bool) (w:World) (hr0:Kd.C (Kd.int .i64) w A0 l0.length l0) (hc0:l0.length≤c0) (h:zb.f k l0=some r):
  Calls Try.prog 79 #[.slice A0 l0.length c0] w fun e w'=>e=.returned (.bool r)∧Drawn0 w w':=by
 have HR0:=am hr0
 have HC0:=am hc0
 clear hr0 hc0
 have H:(zb.l0 k l0 0)=some r:=h
 clear h;have H':=am H;clear H
 go_enter Try.func79,Try.ntmps79
 go_wp2
 go_loopg [3] k (fun kq v3 w'=>∃ (x3_1:Int),v3=.int .i64 x3_1∧qa (zb.l0 kq l0 x3_1=some r)∧qa (kq≤k)∧Drawn0 w w')
 case atStart=>exact⟨(0),fr,H',⟨Nat.le_refl _⟩,df⟩
 case round=>
  clear H'
  obtain⟨x3_1,rfl,HA,HK1,⟨m1,rfl⟩⟩:=hrel
  cases gk with
  | zero=>exact absurd HA.out (by simp[zb.l0])
  | succ k1=>
   have H:=HA.out;clear HA
   simp only[zb.l0]at H
   by_cases c2:x3_1 < (l0.length:Int)
   ·rw[if_pos c2]at H
    have c2b0:=decide_eq_true c2;clear c2;replace H:=ifn H;obtain⟨c3,H⟩:=H;have c3b0:=decide_eq_true c3;clear c3
    by_cases c4:(rd l0 x3_1)=0
    ·rw[if_pos c4]at H
     have c4b0:=beq_iff_eq.mpr c4;have c4b1:=bne_eq_false_iff_eq.mpr c4;clear c4;have H':=am H;clear H
     have p116:0≤(x3_1:Int):=od
     have q116:x3_1 < (l0.length:Int):=od
     obtain⟨ad116,e116,hx116_0⟩:=Kd.at_int HR0.out x3_1 p116 q116
     cases e116;replace p116:=eq_true p116;replace q116:=eq_true q116;go_wp2
     go_roundg k1
     case measure=>have:=HK1.out;omega
     case rel=>exact⟨(wrap64 (x3_1+1)),fr,H',⟨by have:=HK1.out;omega⟩,df⟩
    ·rw[if_neg c4]at H
     have c4b0:=beq_eq_false_iff_ne.mpr c4;have c4b1:=bne_iff_ne.mpr c4;obtain rfl:=Option.some.inj H
     have p116:0≤(x3_1:Int):=od
     have q116:x3_1 < (l0.length:Int):=od
     obtain⟨ad116,e116,hx116_0⟩:=Kd.at_int HR0.out x3_1 p116 q116
     cases e116;replace p116:=eq_true p116;replace q116:=eq_true q116;go_wp2;go_ret
     exact⟨fr,df⟩
   ·rw[if_neg c2]at H
    have c2b0:=decide_eq_false c2;clear c2;obtain rfl:=Option.some.inj H;go_wp2;go_ret
    exact⟨fr,df⟩
def zo.l0 :Nat→Int→Int→Int→Option (Int)
 | 0,_,_,_=>none
 | k+1,x0,x1,x5=>if x5 < x0 then (if x0=0 then (none) else (if (Int.tmod (wrap64 (x5*x1)) x0)=1 then (some x5) else (zo.l0 k x0 x1 (wrap64 (x5+1))))) else (some 0)
def zo.f (k:Nat) (a0:Int) (a1:Int):Option (Int):=zo.l0 k a0 a1 1
theorem zo.mono_l :∀ k,(∀ y0 y1 y2,LeO (zo.l0 k y0 y1 y2) (zo.l0 (k+1) y0 y1 y2))
 | 0=>fun _ _ _ r h=>by simp[zo.l0]at h
 | k+1=>by
  have ih0:=zo.mono_l k
  ·intro y0 y1 y2
   unfold zo.l0
   repeat' first | (with_reducible first | apply ih0 | exact LeO.refl _ | exact LeO.none _ | refine LeO.ite ?_ ?_ | refine LeO.bind ?_ (fun _=>?_)) | (first | apply ih0 | exact LeO.none _ | refine LeO.ite ?_ ?_ | refine LeO.bind ?_ (fun _=>?_))
theorem zo.mono :∀ a0 a1 k,LeO (zo.f k a0 a1) (zo.f (k+1) a0 a1):=by
 intro a0 a1 k
 have ih0:=zo.mono_l k
 unfold zo.f
 repeat' first | (with_reducible first | apply ih0 | exact LeO.refl _ | exact LeO.none _ | refine LeO.ite ?_ ?_ | refine LeO.bind ?_ (fun _=>?_)) | (first | apply ih0 | exact LeO.none _ | refine LeO.ite ?_ ?_ | refine LeO.bind ?_ (fun _=>?_))
theorem zo.calls (k:Nat) (a0:Int) (a1:Int) (r:Int) (w:World) (h:zo.f k a0 a1=some r):
  Calls Try.prog 125 #[.int .i64 a0,.int .i64 a1] w fun e w'=>e=.returned (.int .i64 r)∧Drawn0 w w':=by
 have H:(zo.l0 k a0 a1 1)=some r:=h
 clear h;have H':=am H;clear H
 go_enter Try.func125,Try.ntmps125
 go_wp2
 go_loopg [5] k (fun kq v5 w'=>∃ (x5_1:Int),v5=.int .i64 x5_1∧qa (zo.l0 kq a0 a1 x5_1=some r)∧qa (kq≤k)∧Drawn0 w w')
 case atStart=>exact⟨(1),fr,H',⟨Nat.le_refl _⟩,df⟩
 case round=>
  clear H';try clear c1;try clear p2
  obtain⟨x5_1,rfl,HA,HK1,⟨m1,rfl⟩⟩:=hrel
  cases gk with
  | zero=>exact absurd HA.out (by simp[zo.l0])
  | succ k1=>
   have H:=HA.out;clear HA
   simp only[zo.l0]at H
   by_cases c3:x5_1 < a0
   ·rw[if_pos c3]at H
    have c3b0:=decide_eq_true c3;clear c3;replace H:=ifm H;obtain⟨c4,H⟩:=H;have c4b0:=beq_eq_false_iff_ne.mpr c4;have c4b1:=bne_iff_ne.mpr c4
    by_cases c5:(Int.tmod (wrap64 (x5_1*a1)) a0)=1
    ·rw[if_pos c5]at H
     have c5b0:=beq_iff_eq.mpr c5;have c5b1:=bne_eq_false_iff_eq.mpr c5;clear c5;obtain rfl:=Option.some.inj H;go_wp2;go_ret
     exact⟨fr,df⟩
    ·rw[if_neg c5]at H
     have c5b0:=beq_eq_false_iff_ne.mpr c5;have c5b1:=bne_iff_ne.mpr c5;have H':=am H;clear H;go_wp2
     go_roundg k1
     case measure=>have:=HK1.out;omega
     case rel=>exact⟨(wrap64 (x5_1+1)),fr,H',⟨by have:=HK1.out;omega⟩,df⟩
   ·rw[if_neg c3]at H
    have c3b0:=decide_eq_false c3;clear c3;obtain rfl:=Option.some.inj H;go_wp2;go_ret
    exact⟨fr,df⟩
def qu.l0 :Nat→Int→List Int→List Int→Int→Int→Option (List Int)
 | 0,_,_,_,_,_=>none
 | k+1,x0,x1,x5,x6,x7=>if x7 < (x1.length:Int) then (if x6=0 then (if 0≤x7 then ((zo.f k x0 (rd x1 x7)).bind fun t121=>(if x0=0 then (none) else (if x5.length < 17592186044416 then (qu.l0 k x0 x1 (x5++[Int.tmod (wrap64 ((rd x1 x7)*t121)) x0]) t121 (wrap64 (x7+1))) else (none)))) else (none)) else (if 0≤x7 then (if x0=0 then (none) else (if x5.length < 17592186044416 then (qu.l0 k x0 x1 (x5++[Int.tmod (wrap64 ((rd x1 x7)*x6)) x0]) x6 (wrap64 (x7+1))) else (none))) else (none))) else (some x5)
def qu.f (k:Nat) (a0:Int) (l1:List Int):Option (List Int):=qu.l0 k a0 l1 (([]:List Int)) 0 0
theorem qu.mono_l :∀ k,(∀ y0 y1 y2 y3 y4,LeO (qu.l0 k y0 y1 y2 y3 y4) (qu.l0 (k+1) y0 y1 y2 y3 y4))
 | 0=>fun _ _ _ _ _ r h=>by simp[qu.l0]at h
 | k+1=>by
  have ih0:=qu.mono_l k
  ·intro y0 y1 y2 y3 y4
   unfold qu.l0
   repeat' first | (with_reducible first | apply ih0 | apply zo.mono | exact LeO.refl _ | exact LeO.none _ | refine LeO.ite ?_ ?_ | refine LeO.bind ?_ (fun _=>?_)) | (first | apply ih0 | apply zo.mono | exact LeO.none _ | refine LeO.ite ?_ ?_ | refine LeO.bind ?_ (fun _=>?_))
theorem qu.mono :∀ a0 a1 k,LeO (qu.f k a0 a1) (qu.f (k+1) a0 a1):=by
 intro a0 a1 k
 have ih0:=qu.mono_l k
 unfold qu.f
 repeat' first | (with_reducible first | apply ih0 | apply zo.mono | exact LeO.refl _ | exact LeO.none _ | refine LeO.ite ?_ ?_ | refine LeO.bind ?_ (fun _=>?_)) | (first | apply ih0 | apply zo.mono | exact LeO.none _ | refine LeO.ite ?_ ?_ | refine LeO.bind ?_ (fun _=>?_))
theorem qu.calls (k:Nat) (a0:Int) (A1:Option Addr) (c1:Nat) (l1:List Int) (r:List Int) (w:World) (hr1:Kd.C (Kd.int .i64) w A1 l1.length l1) (hc1:l1.length≤c1) (h:qu.f k a0 l1=some r):
  Calls Try.prog 80 #[.int .i64 a0,.slice A1 l1.length c1] w fun e w'=>∃ v0_:Value,e=.returned (v0_)∧Kd.R (Kd.int .i64) 3 w' w.heap.size (fun _=>True) v0_ r∧Below w.heap.size w w':=by
 have HR1:=am hr1
 have HC1:=am hc1
 clear hr1 hc1
 have HB:=am (Below.refl w.heap.size w)
 have H:(qu.l0 k a0 l1 (([]:List Int)) 0 0)=some r:=h
 clear h
 generalize hy117:(([]:List Int))=y117 at H
 have Ny117:=am hy117.symm;clear hy117;have H':=am H;clear H
 go_enter Try.func80,Try.ntmps80
 go_wp2_with (first | ((with_reducible refine q7 (N:=8) rfl ?_);refine li 3 ([]:List Int) ?_;intro v118 w3 ho4 hb;(first | rw[← Ny117.out]at ho4 | (simp only[Int.reduceToNat]at ho4;rw[← Ny117.out]at ho4));have HO119:=am (Kd.R_lower ho4 (bz HB));replace HB:=bq HB hb;clear hb ho4))
 go_loopg [5,6,7] k (fun kq v5 v6 v7 w'=>∃ (x5_1:List Int) (x6_1:Int) (x7_1:Int),v6=.int .i64 x6_1∧v7=.int .i64 x7_1∧qa (qu.l0 kq a0 l1 x5_1 x6_1 x7_1=some r)∧qa (kq≤k)∧qa (Kd.R (Kd.int .i64) 3 w' w.heap.size (fun _=>True) v5 x5_1)∧qa (Below w.heap.size w w'))
 case atStart=>exact⟨(y117),(0),(0),fr,fr,H',⟨Nat.le_refl _⟩,⟨wR HO119⟩,⟨bw HB⟩⟩
 case round=>
  clear H';try clear c1;try clear p2
  obtain⟨x5_1,x6_1,x7_1,rfl,rfl,HA,HK1,HO_5,HB⟩:=hrel
  cases gk with
  | zero=>exact absurd HA.out (by simp[qu.l0])
  | succ k1=>
   have H:=HA.out;clear HA
   simp only[qu.l0]at H
   by_cases c5:x7_1 < (l1.length:Int)
   ·rw[if_pos c5]at H
    have c5b0:=decide_eq_true c5;clear c5
    by_cases c6:x6_1=0
    ·rw[if_pos c6]at H
     have c6b0:=beq_iff_eq.mpr c6;have c6b1:=bne_eq_false_iff_eq.mpr c6;clear c6;replace H:=ifn H;obtain⟨c7,H⟩:=H;have c7b0:=decide_eq_true c7;clear c7;replace H:=bs H;obtain⟨t121,A8,H⟩:=H;replace H:=ifm H;obtain⟨c9,H⟩:=H
     have c9b0:=beq_eq_false_iff_ne.mpr c9;have c9b1:=bne_iff_ne.mpr c9;replace H:=ifn H;obtain⟨c10,H⟩:=H;have LMc10:=am c10;clear c10
     generalize hy123:(x5_1++[Int.tmod (wrap64 ((rd l1 x7_1)*t121)) a0]:List Int)=y123 at H
     have Ny123:=am hy123.symm;clear hy123;have H':=am H;clear H
     have p120:0≤(x7_1:Int):=od
     have q120:x7_1 < (l1.length:Int):=od
     obtain⟨ad120,e120,hx120_0⟩:=Kd.at_int HR1.out x7_1 p120 q120
     cases e120
     replace hx120_0:=wcl HB hx120_0
     replace p120:=eq_true p120;replace q120:=eq_true q120
     go_wp2_with (first | ((with_reducible refine qe (f:=125) rfl ?_);refine gl 22 Try.func125 #[.int .i64 a0,.int .i64 (rd l1 x7_1)] ?_;(with_reducible refine(zo.calls k1 a0 (rd l1 x7_1) t121 _ A8.out).mono ?_);rintro e w' ⟨rfl,⟨nd,rfl⟩⟩;refine⟨_,rfl,?_⟩;have p122:0≤(x7_1:Int):=od;have q122:x7_1 < (l1.length:Int):=od;obtain⟨ad122,e122,hx122_0⟩:=Kd.at_int HR1.out x7_1 p122 q122;obtain rfl:ad120=ad122:=(by injection e122);replace hx122_0:=wcl HB hx122_0;replace p122:=eq_true p122;replace q122:=eq_true q122) | ((with_reducible refine ji (b:=.append) (xs:=#[.tmp 23,.tmp 32]) rfl ?_);at_builtin;refine Kd.R_append (Kd.int .i64) (w0:=w) w.heap.size rfl (.tmp 23) (.tmp 32) 23 3 (.int .i64 0) 8 rfl Try.underlying23 Q1 rfl (by decide) (by omega) u5 x5_1 (Int.tmod (wrap64 ((rd l1 x7_1)*t121)) a0) [.int .i64 (Int.tmod (wrap64 ((rd l1 x7_1)*t121)) a0)] (fun _=>True) (fun _=>False) rfl rfl ?aP (fun _ hk=>hk.elim) ?aF ?aO ?aB ?aS ?aL ?_;(case aP=>exact rfl);(case aB=>exact(bw HB));(case aF=>exact(fun _ _=>trivial));(case aO=>exact(wR HO_5));(case aS=>exact(bz HB));(case aL=>have:=LMc10.out;omega);intro v124 w11 ho hb hg hat;rw[← Ny123.out]at ho;replace HB:=am (hb);have HO125:=am (ho);clear HO_5;clear ho hb hg hat))
     go_roundg k1
     case measure=>have:=HK1.out;omega
     case rel=>exact⟨(y123),(t121),(wrap64 (x7_1+1)),fr,fr,H',⟨by have:=HK1.out;omega⟩,⟨wR HO125⟩,⟨bw HB⟩⟩
    ·rw[if_neg c6]at H
     have c6b0:=beq_eq_false_iff_ne.mpr c6;have c6b1:=bne_iff_ne.mpr c6;replace H:=ifn H;obtain⟨c12,H⟩:=H;have c12b0:=decide_eq_true c12;clear c12;replace H:=ifm H;obtain⟨c13,H⟩:=H;have c13b0:=beq_eq_false_iff_ne.mpr c13
     have c13b1:=bne_iff_ne.mpr c13;replace H:=ifn H;obtain⟨c14,H⟩:=H;have LMc14:=am c14;clear c14
     generalize hy127:(x5_1++[Int.tmod (wrap64 ((rd l1 x7_1)*x6_1)) a0]:List Int)=y127 at H
     have Ny127:=am hy127.symm;clear hy127;have H':=am H;clear H
     have p126:0≤(x7_1:Int):=od
     have q126:x7_1 < (l1.length:Int):=od
     obtain⟨ad126,e126,hx126_0⟩:=Kd.at_int HR1.out x7_1 p126 q126
     cases e126
     replace hx126_0:=wcl HB hx126_0
     replace p126:=eq_true p126;replace q126:=eq_true q126
     go_wp2_with (first | ((with_reducible refine ji (b:=.append) (xs:=#[.tmp 23,.tmp 32]) rfl ?_);at_builtin;refine Kd.R_append (Kd.int .i64) (w0:=w) w.heap.size rfl (.tmp 23) (.tmp 32) 23 3 (.int .i64 0) 8 rfl Try.underlying23 Q1 rfl (by decide) (by omega) u5 x5_1 (Int.tmod (wrap64 ((rd l1 x7_1)*x6_1)) a0) [.int .i64 (Int.tmod (wrap64 ((rd l1 x7_1)*x6_1)) a0)] (fun _=>True) (fun _=>False) rfl rfl ?aP (fun _ hk=>hk.elim) ?aF ?aO ?aB ?aS ?aL ?_;(case aP=>exact rfl);(case aB=>exact(bw HB));(case aF=>exact(fun _ _=>trivial));(case aO=>exact(wR HO_5));(case aS=>exact(bz HB));(case aL=>have:=LMc14.out;omega);intro v128 w15 ho hb hg hat;rw[← Ny127.out]at ho;replace HB:=am (hb);have HO129:=am (ho);clear HO_5;clear ho hb hg hat))
     go_roundg k1
     case measure=>have:=HK1.out;omega
     case rel=>exact⟨(y127),(x6_1),(wrap64 (x7_1+1)),fr,fr,H',⟨by have:=HK1.out;omega⟩,⟨wR HO129⟩,⟨bw HB⟩⟩
   ·rw[if_neg c5]at H
    have c5b0:=decide_eq_false c5;clear c5;obtain rfl:=Option.some.inj H;go_wp2;go_ret
    exact⟨_,fq,wR HO_5,bw HB⟩
def zq.f (a0:Int) (a1:Int) (a2:Int):Option (Bool):=if a0≥a1 then (some (decide (a0≤a2))) else (some false)
theorem zq.calls (a0:Int) (a1:Int) (a2:Int) (r:Bool) (w:World) (h:zq.f a0 a1 a2=some r):
  Calls Try.prog 87 #[.int .i64 a0,.int .i64 a1,.int .i64 a2] w fun e w'=>e=.returned (.bool r)∧Drawn0 w w':=by
 have H:(if a0≥a1 then (some (decide (a0≤a2))) else (some false))=some r:=h
 clear h
 by_cases c4:a0≥a1
 ·rw[if_pos c4]at H
  have c4b0:=decide_eq_true c4;clear c4;obtain rfl:=Option.some.inj H
  go_enter Try.func87,Try.ntmps87
  go_wp2;go_ret
  exact⟨fr,df⟩
 ·rw[if_neg c4]at H
  have c4b0:=decide_eq_false c4;clear c4;obtain rfl:=Option.some.inj H
  go_enter Try.func87,Try.ntmps87
  go_wp2;go_ret
  exact⟨fr,df⟩
end Go.Proofs.Ytmgbpmihbljngaa.PA
