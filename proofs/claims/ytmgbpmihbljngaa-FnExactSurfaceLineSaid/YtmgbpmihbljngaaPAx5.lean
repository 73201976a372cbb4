-- Written by xprint.py, a program of this claim's own (over the kit's print.py)
import Derived.Test.YtmgbpmihbljngaaPAx4
namespace Go.Proofs.Ytmgbpmihbljngaa.PA
open Go.RowKit Go.Proofs.YtmgbpmihbljngaaW.PrintWords Go.Proofs.YtmgbpmihbljngaaW.PrintLast Go.Proofs.YtmgbpmihbljngaaW.PrintMore
attribute [local go_sem] Qs Qr Qx Qw Qf Qe Qq Qp
set_option linter.unusedVariables false
set_option linter.unusedSimpArgs false
mutual
def qn.l0 :Nat→Int→List (S43)→Int→Option (Bool)
 | 0,_,_,_=>none
 | k+1,x0,x1,x5=>if x5 < (x1.length:Int) then (if 0≤x5 then ((j7.f k x0 ((qd x1 x5).f0.f0) ((qd x1 x5).f0.f1) ((qd x1 x5).f0.f2)).bind fun t155=>(if t155=true then (qn.l1 k x0 x1 x5 0) else (some false))) else (none)) else (some true)
def qn.l1 :Nat→Int→List (S43)→Int→Int→Option (Bool)
 | 0,_,_,_,_=>none
 | k+1,x0,x1,x5,x6=>if x6 < x5 then (qn.l2 k x0 x1 x5 x6 0) else (qn.l0 k x0 x1 (wrap64 (x5+1)))
def qn.l2 :Nat→Int→List (S43)→Int→Int→Int→Option (Bool)
 | 0,_,_,_,_,_=>none
 | k+1,x0,x1,x5,x6,x7=>if x7 < x6 then (if 0≤x5 then (if x5 < (x1.length:Int) then (if 0≤x6 then (if x6 < (x1.length:Int) then (if 0≤x7 then (if x7 < (x1.length:Int) then ((j8.f x0 ((qd x1 x6).f0.f0) ((qd x1 x6).f0.f1) ((qd x1 x6).f0.f2) ((qd x1 x7).f0.f0) ((qd x1 x7).f0.f1) ((qd x1 x7).f0.f2)).bind fun t159=>((Zl.f x0 ((qd x1 x5).f0.f0) ((qd x1 x5).f0.f1) ((qd x1 x5).f0.f2) t159).bind fun t162=>(if t162=true then (some false) else (qn.l2 k x0 x1 x5 x6 (wrap64 (x7+1)))))) else (none)) else (none)) else (none)) else (none)) else (none)) else (none)) else (qn.l1 k x0 x1 x5 (wrap64 (x6+1)))
end
def qn.f (k:Nat) (a0:Int) (l1:List (S43)):Option (Bool):=qn.l0 k a0 l1 0
theorem qn.mono_l :∀ k,(∀ y0 y1 y2,LeO (qn.l0 k y0 y1 y2) (qn.l0 (k+1) y0 y1 y2))∧(∀ y0 y1 y2 y3,LeO (qn.l1 k y0 y1 y2 y3) (qn.l1 (k+1) y0 y1 y2 y3))∧(∀ y0 y1 y2 y3 y4,LeO (qn.l2 k y0 y1 y2 y3 y4) (qn.l2 (k+1) y0 y1 y2 y3 y4))
 | 0=>⟨fun _ _ _ r h=>by simp[qn.l0]at h,fun _ _ _ _ r h=>by simp[qn.l1]at h,fun _ _ _ _ _ r h=>by simp[qn.l2]at h⟩
 | k+1=>by
  obtain⟨ih0,ih1,ih2⟩:=qn.mono_l k
  refine⟨?_,?_,?_⟩
  ·intro y0 y1 y2
   unfold qn.l0
   repeat' first | (with_reducible first | apply ih0 | apply ih1 | apply ih2 | apply j7.mono | exact LeO.refl _ | exact LeO.none _ | refine LeO.ite ?_ ?_ | refine LeO.bind ?_ (fun _=>?_)) | (first | apply ih0 | apply ih1 | apply ih2 | apply j7.mono | exact LeO.none _ | refine LeO.ite ?_ ?_ | refine LeO.bind ?_ (fun _=>?_))
  ·intro y0 y1 y2 y3
   unfold qn.l1
   repeat' first | (with_reducible first | apply ih0 | apply ih1 | apply ih2 | apply j7.mono | exact LeO.refl _ | exact LeO.none _ | refine LeO.ite ?_ ?_ | refine LeO.bind ?_ (fun _=>?_)) | (first | apply ih0 | apply ih1 | apply ih2 | apply j7.mono | exact LeO.none _ | refine LeO.ite ?_ ?_ | refine LeO.bind ?_ (fun _=>?_))
  ·intro y0 y1 y2 y3 y4
   unfold qn.l2
   repeat' first | (with_reducible first | apply ih0 | apply ih1 | apply ih2 | apply j7.mono | exact LeO.refl _ | exact LeO.none _ | refine LeO.ite ?_ ?_ | refine LeO.bind ?_ (fun _=>?_)) | (first | apply ih0 | apply ih1 | apply ih2 | apply j7.mono | exact LeO.none _ | refine LeO.ite ?_ ?_ | refine LeO.bind ?_ (fun _=>?_))
theorem qn.mono :∀ a0 a1 k,LeO (qn.f k a0 a1) (qn.f (k+1) a0 a1):=by
 intro a0 a1 k
 obtain⟨ih0,ih1,ih2⟩:=qn.mono_l k
 unfold qn.f
 repeat' first | (with_reducible first | apply ih0 | apply ih1 | apply ih2 | apply j7.mono | exact LeO.refl _ | exact LeO.none _ | refine LeO.ite ?_ ?_ | refine LeO.bind ?_ (fun _=>?_)) | (first | apply ih0 | apply ih1 | apply ih2 | apply j7.mono | exact LeO.none _ | refine LeO.ite ?_ ?_ | refine LeO.bind ?_ (fun _=>?_))
def qn.T12 :Bool×List (List Nat×List Nat):=(true,[([],[]),([],[]),([],[]),([1,2],[1,2]),([3],[3]),([],[]),([],[]),([],[]),([6,7],[6,7]),([8],[8]),([],[]),([],[]),([10,11],[10,11]),([12],[12]),([5,9,13],[5,9,13]),([0,4,14,14],[0,4,14])])
def qn.B12 :List Nat:=[0,0,0,6,14,0,0,0,192,448,0,0,3072,7168,16352,32767]
theorem qn.tab12 :rtab .any (Z0 Try.f105 12)=qn.T12:=by kernel_rfl
theorem qn.bits12 :Qj qn.T12.2 qn.B12=true:=by kernel_rfl
set_option maxHeartbeats 8000000 in
set_option maxRecDepth 100000 in
theorem qn.calls (k:Nat) (a0:Int) (A1:Option Addr) (c1:Nat) (l1:List (S43)) (r:Bool) (w:World) (hr1:Kd.C k43 w A1 l1.length l1) (hc1:l1.length≤c1) (h:qn.f k a0 l1=some r):
  Calls Try.prog 105 #[.int .i64 a0,.slice A1 l1.length c1] w fun e w'=>e=.returned (.bool r)∧Below w.heap.size w w':=by
 have hu43:=Try.underlying43
 have HR1:=am hr1
 have HC1:=am hc1
 clear hr1 hc1
 have HB:=am (Below.refl w.heap.size w)
 have H:(qn.l0 k a0 l1 0)=some r:=h
 clear h;have H':=am H;clear H
 go_enter Try.func105,Try.ntmps105
 go_wp2
 go_loopg [5] k (fun kq v5 w'=>∃ (x5_1:Int),v5=.int .i64 x5_1∧qf (qn.l0 kq a0 l1 x5_1=some r)∧qf (kq≤k)∧qf (Below w.heap.size w w'))
 case atStart=>exact⟨(0),fr,H',⟨Nat.le_refl _⟩,⟨bw HB⟩⟩
 case round =>
  clear H';try clear c1;try clear p2
  obtain⟨x5_1,rfl,HA,HK1,HB⟩:=hrel
  cases gk with
  | zero=>exact absurd HA.out (by simp[qn.l0])
  | succ k1 =>
   have H:=HA.out;clear HA
   simp only[qn.l0]at H
   by_cases c3:x5_1 < (l1.length:Int)
   ·rw [if_pos c3] at H
    have c3b0:=decide_eq_true c3;clear c3;replace H:=ifn H;obtain⟨c4,H⟩:=H;have c4b0:=decide_eq_true c4;clear c4;replace H:=bs H;obtain⟨t155,A5,H⟩:=H
    by_cases c6:t155=true
    ·subst c6
     rw[if_pos rfl]at H
     have H':=am H;clear H
     have p154:0≤(x5_1:Int):=od
     have q154:x5_1 < (l1.length:Int):=od
     obtain⟨ad154,e154,hx154_0,hx154_1,hx154_2⟩:=Qo HR1.out x5_1 p154 q154
     cases e154
     replace hx154_0:=wcl HB hx154_0
     replace hx154_1:=wcl HB hx154_1
     replace hx154_2:=wcl HB hx154_2
     replace p154:=eq_true p154;replace q154:=eq_true q154
     go_wp2_with (first | ((with_reducible refine qt (f:=76) rfl ?_);refine gl 19 Try.func76 #[.int .i64 a0,.agg #[.int .i64 ((qd l1 x5_1).f0.f0),.int .i64 ((qd l1 x5_1).f0.f1),.int .i64 ((qd l1 x5_1).f0.f2)]] ?_;(with_reducible refine(j7.calls k1 a0 ((qd l1 x5_1).f0.f0) ((qd l1 x5_1).f0.f1) ((qd l1 x5_1).f0.f2) true _ A5.out).mono ?_);rintro e w7 ⟨rfl,hb⟩;refine⟨_,rfl,?_⟩;replace HB:=bq HB hb;(try clear hb)))
     go_loopg [6] k1 (fun kq v6 w'=>∃ (x6_2:Int),v6=.int .i64 x6_2∧qf (qn.l1 kq a0 l1 x5_1 x6_2=some r)∧qf (kq≤k1)∧qf (Below w.heap.size w w'))
     case atStart=>exact⟨(0),fr,H',⟨Nat.le_refl _⟩,⟨bw HB⟩⟩
     case round=>
      clear H';try clear c1;try clear p1;try clear q1;try clear hx1;try clear p2;try clear c3;try clear c3b0;try clear c4;try clear c4b0;try clear c6;try clear c7;try clear hx154_0;try clear hx154_1;try clear hx154_2;try clear p154
      try clear p2;try clear q154
      obtain⟨x6_2,rfl,HA,HK2,HB⟩:=hrel
      cases gk with
      | zero=>exact absurd HA.out (by simp[qn.l1])
      | succ k2=>
       have H:=HA.out;clear HA
       simp only[qn.l1]at H
       by_cases c8:x6_2 < x5_1
       ·rw [if_pos c8] at H
        have c8b0:=decide_eq_true c8;clear c8;have H':=am H;clear H;go_wp2
        go_loopg [7] k2 (fun kq v7 w'=>∃ (x7_3:Int),v7=.int .i64 x7_3∧qf (qn.l2 kq a0 l1 x5_1 x6_2 x7_3=some r)∧qf (kq≤k2)∧qf (Below w.heap.size w w'))
        case atStart=>exact⟨(0),fr,H',⟨Nat.le_refl _⟩,⟨bw HB⟩⟩
        case round=>
         clear H';try clear c1;try clear p1;try clear q1;try clear hx1;try clear p2;try clear c3;try clear c3b0;try clear c4;try clear c4b0;try clear c6;try clear c7;try clear c8;try clear c8b0;try clear hx154_0;try clear hx154_1;try clear hx154_2
         try clear p1;try clear p154;try clear p2;try clear q1;try clear q154
         obtain⟨x7_3,rfl,HA,HK3,HB⟩:=hrel
         cases gk with
         | zero=>exact absurd HA.out (by simp[qn.l2])
         | succ k3=>
          have H:=HA.out;clear HA
          simp only[qn.l2]at H
          by_cases c9:x7_3 < x6_2
          ·rw[if_pos c9]at H
           have c9b0:=decide_eq_true c9;clear c9;replace H:=ifn H;obtain⟨c10,H⟩:=H;have c10b0:=decide_eq_true c10;clear c10;replace H:=ifn H;obtain⟨c11,H⟩:=H;have c11b0:=decide_eq_true c11;clear c11;replace H:=ifn H;obtain⟨c12,H⟩:=H
           have c12b0:=decide_eq_true c12;clear c12;replace H:=ifn H;obtain⟨c13,H⟩:=H;have c13b0:=decide_eq_true c13;clear c13;replace H:=ifn H;obtain⟨c14,H⟩:=H;have c14b0:=decide_eq_true c14;clear c14;replace H:=ifn H;obtain⟨c15,H⟩:=H
           have c15b0:=decide_eq_true c15;clear c15;replace H:=bs H;obtain⟨t159,A16,H⟩:=H;replace H:=bs H;obtain⟨t162,A17,H⟩:=H
           by_cases c18:t162=true
           ·subst c18
            rw[if_pos rfl]at H
            obtain rfl:=Option.some.inj H
            try go_wp2
            replace HB:=am (Qg HB.out)
            have p156:0≤(x5_1:Int):=od
            have q156:x5_1 < (l1.length:Int):=od
            obtain⟨ad156,e156,hx156_0,hx156_1,hx156_2⟩:=Qo HR1.out x5_1 p156 q156
            have hw156_2:=hx156_2
            have hw156_1:=hx156_1
            have hw156_0:=hx156_0
            obtain rfl:ad154=ad156:=(by injection e156)
            replace hx156_0:=wcl HB hx156_0
            replace hx156_1:=wcl HB hx156_1
            replace hx156_2:=wcl HB hx156_2
            replace p156:=eq_true p156;replace q156:=eq_true q156
            have p157:0≤(x6_2:Int):=od
            have q157:x6_2 < (l1.length:Int):=od
            obtain⟨ad157,e157,hx157_0,hx157_1,hx157_2⟩:=Qo HR1.out x6_2 p157 q157
            have hw157_2:=hx157_2
            have hw157_1:=hx157_1
            have hw157_0:=hx157_0
            obtain rfl:ad154=ad157:=(by injection e157)
            replace hx157_0:=wcl HB hx157_0
            replace hx157_1:=wcl HB hx157_1
            replace hx157_2:=wcl HB hx157_2
            replace p157:=eq_true p157;replace q157:=eq_true q157
            have p158:0≤(x7_3:Int):=od
            have q158:x7_3 < (l1.length:Int):=od
            obtain⟨ad158,e158,hx158_0,hx158_1,hx158_2⟩:=Qo HR1.out x7_3 p158 q158
            have hw158_2:=hx158_2
            have hw158_1:=hx158_1
            have hw158_0:=hx158_0
            obtain rfl:ad154=ad158:=(by injection e158)
            replace hx158_0:=wcl HB hx158_0
            replace hx158_1:=wcl HB hx158_1
            replace hx158_2:=wcl HB hx158_2
            replace p158:=eq_true p158;replace q158:=eq_true q158
            refine st 16 (fun w'=>w'.cell? (ad154.add ((x5_1).toNat*3))=some (.int .i64 ((qd l1 x5_1).f0.f0))∧w'.cell? ⟨(ad154.add ((x5_1).toNat*3)).block,(ad154.add ((x5_1).toNat*3)).off+1,none⟩=some (.int .i64 ((qd l1 x5_1).f0.f1))∧w'.cell? ⟨(ad154.add ((x5_1).toNat*3)).block,(ad154.add ((x5_1).toNat*3)).off+2,none⟩=some (.int .i64 ((qd l1 x5_1).f0.f2))∧w'.cell? (ad154.add ((x6_2).toNat*3))=some (.int .i64 ((qd l1 x6_2).f0.f0))∧w'.cell? ⟨(ad154.add ((x6_2).toNat*3)).block,(ad154.add ((x6_2).toNat*3)).off+1,none⟩=some (.int .i64 ((qd l1 x6_2).f0.f1))∧w'.cell? ⟨(ad154.add ((x6_2).toNat*3)).block,(ad154.add ((x6_2).toNat*3)).off+2,none⟩=some (.int .i64 ((qd l1 x6_2).f0.f2))∧w'.cell? (ad154.add ((x7_3).toNat*3))=some (.int .i64 ((qd l1 x7_3).f0.f0))∧w'.cell? ⟨(ad154.add ((x7_3).toNat*3)).block,(ad154.add ((x7_3).toNat*3)).off+1,none⟩=some (.int .i64 ((qd l1 x7_3).f0.f1))∧w'.cell? ⟨(ad154.add ((x7_3).toNat*3)).block,(ad154.add ((x7_3).toNat*3)).off+2,none⟩=some (.int .i64 ((qd l1 x7_3).f0.f2))) [] qn.tab12 qn.bits12 (⟨(wcl HB hw156_0),(wcl HB hw156_1),(wcl HB hw156_2),(wcl HB hw157_0),(wcl HB hw157_1),(wcl HB hw157_2),(wcl HB hw158_0),(wcl HB hw158_1),(wcl HB hw158_2)⟩) fun hHeld HT_ HW_=>?_
            generalize wr.drew=w19 at HB hx156_0 hx156_1 hx156_2 hx157_0 hx157_1 hx157_2 hx158_0 hx158_1 hx158_2 hHeld ⊢
            refine pz 0 31 HT_ ?_;refine pz 1 32 HT_ ?_;refine pz 2 33 HT_ ?_;refine pz 3 34 HT_ ?_;refine pz 5 36 HT_ ?_;refine pz 6 37 HT_ ?_;refine pz 7 38 HT_ ?_;refine pz 8 39 HT_ ?_;refine pz 10 41 HT_ ?_;refine pz 11 42 HT_ ?_;refine pz 12 43 HT_ ?_
            refine tk 4 35 HT_ HW_ hHeld ?_;refine tk 9 40 HT_ HW_ hHeld ?_;refine tk 13 44 HT_ HW_ hHeld ?_
            refine on 14 (some 45) HT_ fun K hK=>?_
            refine gs_ Try.func130 #[.int .i64 a0,.agg #[.int .i64 ((qd l1 x6_2).f0.f0),.int .i64 ((qd l1 x6_2).f0.f1),.int .i64 ((qd l1 x6_2).f0.f2)],.agg #[.int .i64 ((qd l1 x7_3).f0.f0),.int .i64 ((qd l1 x7_3).f0.f1),.int .i64 ((qd l1 x7_3).f0.f2)]] ?_
            with_reducible refine(j8.calls a0 ((qd l1 x6_2).f0.f0) ((qd l1 x6_2).f0.f1) ((qd l1 x6_2).f0.f2) ((qd l1 x7_3).f0.f0) ((qd l1 x7_3).f0.f1) ((qd l1 x7_3).f0.f2) t159 _ A16.out).mono ?_
            rintro e w20 ⟨v160,rfl,ho0,hb⟩
            refine⟨_,rfl,?_⟩
            have HO161:=am (Kd.R_lower ho0 (bz HB))
            replace HB:=bq HB hb
            (try clear hb)
            (try clear hb2)
            (try clear hk)
            (try clear hi)
            (try clear ho0)
            obtain⟨Ao21,co21,eo21⟩:=Kd.R_slice HO161.out
            (first | subst eo21 | (injection eo21 with f1_ f2_ f3_;have f4_:=f1_.symm;have f5_:=f3_.symm;clear f1_ f2_ f3_;subst f4_;subst f5_))
            refine hK.out _ _ ⟨(wcl HB hw156_0),(wcl HB hw156_1),(wcl HB hw156_2),(wcl HB hw157_0),(wcl HB hw157_1),(wcl HB hw157_2),(wcl HB hw158_0),(wcl HB hw158_1),(wcl HB hw158_2)⟩ fun hHeld=>nz ?_
            clear hK K
            refine on 15 (some 46) HT_ fun K hK=>?_
            refine gs_ Try.func131 #[.int .i64 a0,.agg #[.int .i64 ((qd l1 x5_1).f0.f0),.int .i64 ((qd l1 x5_1).f0.f1),.int .i64 ((qd l1 x5_1).f0.f2)],.slice Ao21 t159.length co21] ?_
            with_reducible refine(Zl.calls a0 ((qd l1 x5_1).f0.f0) ((qd l1 x5_1).f0.f1) ((qd l1 x5_1).f0.f2) _ _ t159 true _ ?side1 ?side2 A17.out).mono ?_
            (case side1=>exact Kd.C_below (Kd.R_reads' HO161.out).2.2 gs)
            (case side2=>exact(Kd.R_reads' HO161.out).2.1)
            rintro e w22 ⟨rfl,hb⟩
            refine⟨_,rfl,?_⟩
            replace HO161:=am (Kd.R_below (wR HO161) hb)
            replace HB:=bq HB hb
            (try clear hb)
            (try clear hb2)
            (try clear hk)
            (try clear hi)
            refine hK.out _ _ ⟨(wcl HB hw156_0),(wcl HB hw156_1),(wcl HB hw156_2),(wcl HB hw157_0),(wcl HB hw157_1),(wcl HB hw157_2),(wcl HB hw158_0),(wcl HB hw158_1),(wcl HB hw158_2)⟩ fun hHeld=>nz ?_
            clear hK K
            refine Q3 (Qa HT_.out (by kernel_rfl)) ?_
            try go_wp2
            go_ret
            exact⟨fq,bw HB⟩
           ·replace c18:=Bool.eq_false_iff.mpr c18
            subst c18
            rw[if_neg (show ¬ (false=true) by decide)]at H
            have H':=am H;clear H
            try go_wp2
            replace HB:=am (Qg HB.out)
            have p156:0≤(x5_1:Int):=od
            have q156:x5_1 < (l1.length:Int):=od
            obtain⟨ad156,e156,hx156_0,hx156_1,hx156_2⟩:=Qo HR1.out x5_1 p156 q156
            have hw156_2:=hx156_2
            have hw156_1:=hx156_1
            have hw156_0:=hx156_0
            obtain rfl:ad154=ad156:=(by injection e156)
            replace hx156_0:=wcl HB hx156_0
            replace hx156_1:=wcl HB hx156_1
            replace hx156_2:=wcl HB hx156_2
            replace p156:=eq_true p156;replace q156:=eq_true q156
            have p157:0≤(x6_2:Int):=od
            have q157:x6_2 < (l1.length:Int):=od
            obtain⟨ad157,e157,hx157_0,hx157_1,hx157_2⟩:=Qo HR1.out x6_2 p157 q157
            have hw157_2:=hx157_2
            have hw157_1:=hx157_1
            have hw157_0:=hx157_0
            obtain rfl:ad154=ad157:=(by injection e157)
            replace hx157_0:=wcl HB hx157_0
            replace hx157_1:=wcl HB hx157_1
            replace hx157_2:=wcl HB hx157_2
            replace p157:=eq_true p157;replace q157:=eq_true q157
            have p158:0≤(x7_3:Int):=od
            have q158:x7_3 < (l1.length:Int):=od
            obtain⟨ad158,e158,hx158_0,hx158_1,hx158_2⟩:=Qo HR1.out x7_3 p158 q158
            have hw158_2:=hx158_2
            have hw158_1:=hx158_1
            have hw158_0:=hx158_0
            obtain rfl:ad154=ad158:=(by injection e158)
            replace hx158_0:=wcl HB hx158_0
            replace hx158_1:=wcl HB hx158_1
            replace hx158_2:=wcl HB hx158_2
            replace p158:=eq_true p158;replace q158:=eq_true q158
            refine st 16 (fun w'=>w'.cell? (ad154.add ((x5_1).toNat*3))=some (.int .i64 ((qd l1 x5_1).f0.f0))∧w'.cell? ⟨(ad154.add ((x5_1).toNat*3)).block,(ad154.add ((x5_1).toNat*3)).off+1,none⟩=some (.int .i64 ((qd l1 x5_1).f0.f1))∧w'.cell? ⟨(ad154.add ((x5_1).toNat*3)).block,(ad154.add ((x5_1).toNat*3)).off+2,none⟩=some (.int .i64 ((qd l1 x5_1).f0.f2))∧w'.cell? (ad154.add ((x6_2).toNat*3))=some (.int .i64 ((qd l1 x6_2).f0.f0))∧w'.cell? ⟨(ad154.add ((x6_2).toNat*3)).block,(ad154.add ((x6_2).toNat*3)).off+1,none⟩=some (.int .i64 ((qd l1 x6_2).f0.f1))∧w'.cell? ⟨(ad154.add ((x6_2).toNat*3)).block,(ad154.add ((x6_2).toNat*3)).off+2,none⟩=some (.int .i64 ((qd l1 x6_2).f0.f2))∧w'.cell? (ad154.add ((x7_3).toNat*3))=some (.int .i64 ((qd l1 x7_3).f0.f0))∧w'.cell? ⟨(ad154.add ((x7_3).toNat*3)).block,(ad154.add ((x7_3).toNat*3)).off+1,none⟩=some (.int .i64 ((qd l1 x7_3).f0.f1))∧w'.cell? ⟨(ad154.add ((x7_3).toNat*3)).block,(ad154.add ((x7_3).toNat*3)).off+2,none⟩=some (.int .i64 ((qd l1 x7_3).f0.f2))) [] qn.tab12 qn.bits12 (⟨(wcl HB hw156_0),(wcl HB hw156_1),(wcl HB hw156_2),(wcl HB hw157_0),(wcl HB hw157_1),(wcl HB hw157_2),(wcl HB hw158_0),(wcl HB hw158_1),(wcl HB hw158_2)⟩) fun hHeld HT_ HW_=>?_
            generalize wr.drew=w23 at HB hx156_0 hx156_1 hx156_2 hx157_0 hx157_1 hx157_2 hx158_0 hx158_1 hx158_2 hHeld ⊢
            refine pz 0 31 HT_ ?_;refine pz 1 32 HT_ ?_;refine pz 2 33 HT_ ?_;refine pz 3 34 HT_ ?_;refine pz 5 36 HT_ ?_;refine pz 6 37 HT_ ?_;refine pz 7 38 HT_ ?_;refine pz 8 39 HT_ ?_;refine pz 10 41 HT_ ?_;refine pz 11 42 HT_ ?_;refine pz 12 43 HT_ ?_
            refine tk 4 35 HT_ HW_ hHeld ?_;refine tk 9 40 HT_ HW_ hHeld ?_;refine tk 13 44 HT_ HW_ hHeld ?_
            refine on 14 (some 45) HT_ fun K hK=>?_
            refine gs_ Try.func130 #[.int .i64 a0,.agg #[.int .i64 ((qd l1 x6_2).f0.f0),.int .i64 ((qd l1 x6_2).f0.f1),.int .i64 ((qd l1 x6_2).f0.f2)],.agg #[.int .i64 ((qd l1 x7_3).f0.f0),.int .i64 ((qd l1 x7_3).f0.f1),.int .i64 ((qd l1 x7_3).f0.f2)]] ?_
            with_reducible refine(j8.calls a0 ((qd l1 x6_2).f0.f0) ((qd l1 x6_2).f0.f1) ((qd l1 x6_2).f0.f2) ((qd l1 x7_3).f0.f0) ((qd l1 x7_3).f0.f1) ((qd l1 x7_3).f0.f2) t159 _ A16.out).mono ?_
            rintro e w24 ⟨v160,rfl,ho0,hb⟩
            refine⟨_,rfl,?_⟩
            have HO161:=am (Kd.R_lower ho0 (bz HB))
            replace HB:=bq HB hb
            (try clear hb)
            (try clear hb2)
            (try clear hk)
            (try clear hi)
            (try clear ho0)
            obtain⟨Ao25,co25,eo25⟩:=Kd.R_slice HO161.out
            (first | subst eo25 | (injection eo25 with f1_ f2_ f3_;have f4_:=f1_.symm;have f5_:=f3_.symm;clear f1_ f2_ f3_;subst f4_;subst f5_))
            refine hK.out _ _ ⟨(wcl HB hw156_0),(wcl HB hw156_1),(wcl HB hw156_2),(wcl HB hw157_0),(wcl HB hw157_1),(wcl HB hw157_2),(wcl HB hw158_0),(wcl HB hw158_1),(wcl HB hw158_2)⟩ fun hHeld=>nz ?_
            clear hK K
            refine on 15 (some 46) HT_ fun K hK=>?_
            refine gs_ Try.func131 #[.int .i64 a0,.agg #[.int .i64 ((qd l1 x5_1).f0.f0),.int .i64 ((qd l1 x5_1).f0.f1),.int .i64 ((qd l1 x5_1).f0.f2)],.slice Ao25 t159.length co25] ?_
            with_reducible refine(Zl.calls a0 ((qd l1 x5_1).f0.f0) ((qd l1 x5_1).f0.f1) ((qd l1 x5_1).f0.f2) _ _ t159 false _ ?side1 ?side2 A17.out).mono ?_
            (case side1=>exact Kd.C_below (Kd.R_reads' HO161.out).2.2 gs)
            (case side2=>exact(Kd.R_reads' HO161.out).2.1)
            rintro e w26 ⟨rfl,hb⟩
            refine⟨_,rfl,?_⟩
            replace HO161:=am (Kd.R_below (wR HO161) hb)
            replace HB:=bq HB hb
            (try clear hb)
            (try clear hb2)
            (try clear hk)
            (try clear hi)
            refine hK.out _ _ ⟨(wcl HB hw156_0),(wcl HB hw156_1),(wcl HB hw156_2),(wcl HB hw157_0),(wcl HB hw157_1),(wcl HB hw157_2),(wcl HB hw158_0),(wcl HB hw158_1),(wcl HB hw158_2)⟩ fun hHeld=>nz ?_
            clear hK K
            refine Q3 (Qa HT_.out (by kernel_rfl)) ?_
            try go_wp2
            go_roundg k3
            case measure=>have:=HK1.out;have:=HK2.out;have:=HK3.out;omega
            case rel=>exact⟨(wrap64 (x7_3+1)),fr,H',⟨by have:=HK1.out;have:=HK2.out;have:=HK3.out;omega⟩,⟨bw HB⟩⟩
          ·rw[if_neg c9]at H
           have c9b0:=decide_eq_false c9;clear c9;have H':=am H;clear H;go_wp2
           go_roundg k3
           case measure=>have:=HK1.out;have:=HK2.out;have:=HK3.out;omega
           case rel=>exact⟨(wrap64 (x6_2+1)),fr,H',⟨by have:=HK1.out;have:=HK2.out;have:=HK3.out;omega⟩,⟨bw HB⟩⟩
       ·rw[if_neg c8]at H
        have c8b0:=decide_eq_false c8;clear c8;have H':=am H;clear H;go_wp2
        go_roundg k2
        case measure=>have:=HK1.out;have:=HK2.out;omega
        case rel=>exact⟨(wrap64 (x5_1+1)),fr,H',⟨by have:=HK1.out;have:=HK2.out;omega⟩,⟨bw HB⟩⟩
    ·replace c6:=Bool.eq_false_iff.mpr c6
     subst c6
     rw[if_neg (show ¬ (false=true) by decide)]at H
     obtain rfl:=Option.some.inj H
     have p154:0≤(x5_1:Int):=od
     have q154:x5_1 < (l1.length:Int):=od
     obtain⟨ad154,e154,hx154_0,hx154_1,hx154_2⟩:=Qo HR1.out x5_1 p154 q154
     cases e154
     replace hx154_0:=wcl HB hx154_0
     replace hx154_1:=wcl HB hx154_1
     replace hx154_2:=wcl HB hx154_2
     replace p154:=eq_true p154;replace q154:=eq_true q154
     go_wp2_with (first | ((with_reducible refine qt (f:=76) rfl ?_);refine gl 19 Try.func76 #[.int .i64 a0,.agg #[.int .i64 ((qd l1 x5_1).f0.f0),.int .i64 ((qd l1 x5_1).f0.f1),.int .i64 ((qd l1 x5_1).f0.f2)]] ?_;(with_reducible refine(j7.calls k1 a0 ((qd l1 x5_1).f0.f0) ((qd l1 x5_1).f0.f1) ((qd l1 x5_1).f0.f2) false _ A5.out).mono ?_);rintro e w27 ⟨rfl,hb⟩;refine⟨_,rfl,?_⟩;replace HB:=bq HB hb;(try clear hb)))
     go_ret
     exact⟨fq,bw HB⟩
   ·rw[if_neg c3]at H
    have c3b0:=decide_eq_false c3;clear c3;obtain rfl:=Option.some.inj H;go_wp2;go_ret
    exact⟨fq,bw HB⟩
end Go.Proofs.Ytmgbpmihbljngaa.PA
